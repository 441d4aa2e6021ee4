-- thin
-- short
-- compact
import Derived.Test.YtphkphjddkjabaaXA
import Derived.Test.YtphkphjddkjabaaX0
import Derived.Test.YtphkphjddkjabaaX1
import Derived.Test.YtphkphjddkjabaaX2
import Derived.Test.YtphkphjddkjabaaX3
namespace Go.Proofs.Ytphkphjddkjabaa.X
open Go.RowKit Go.Proofs.Ytphkphjddkjabaa.XW Go.Proofs.YtphkphjddkjabaaW.PrintWords Go.Proofs.YtphkphjddkjabaaW.PrintLast Go.Proofs.YtphkphjddkjabaaW.PrintMore
attribute [local go_sem] max2_int min2_int max_two min_two max_three min_three max_four min_four   -- for this text's walks alone
set_option linter.unusedVariables false
set_option linter.unusedSimpArgs false

attribute [local go_sem high] eqA38
mutual
def spec_pgGood.l0 : Nat → List (S_impl_Peg) → Int → List (S_impl_Peg) → Int → Int → Option (Bool)
 | 0, _, _, _, _, _ => none
 | k + 1, x0, x3, x17, x18, x19 => if x19 < x18 then (if 0 ≤ x19 then (if x19 < (x17.length : Int) then ((spec_pgIs.f ((rd_impl_Peg x17 x19).f0) ((rd_impl_Peg x17 x19).f1)).bind fun t130 => (if t130 = true then (if x19 ≤ (x0.length : Int) then ((some (x0.take (x19 : Int).toNat : List (S_impl_Peg))).bind fun y131 => (spec_pgGood.l1 k x0 x3 x17 x18 x19 y131 (y131.length : Int) 0 ((rd_impl_Peg x17 x19).f0) ((rd_impl_Peg x17 x19).f1))) else (none)) else (some false))) else (none)) else (none)) else (spec_pgGood.l2 k x0 x3 x0 (x0.length : Int) 0)
def spec_pgGood.l1 : Nat → List (S_impl_Peg) → Int → List (S_impl_Peg) → Int → Int → List (S_impl_Peg) → Int → Int → Int → Int → Option (Bool)
 | 0, _, _, _, _, _, _, _, _, _, _ => none
 | k + 1, x0, x3, x17, x18, x19, x29, x30, x31, x130000, x130001 => if x31 < x30 then (if 0 ≤ x31 then (if x31 < (x29.length : Int) then (if (x130000 == ((rd_impl_Peg x29 x31).f0) && (x130001 == ((rd_impl_Peg x29 x31).f1))) = true then (some false) else (spec_pgGood.l1 k x0 x3 x17 x18 x19 x29 x30 (wrap64 (x31 + 1)) x130000 x130001)) else (none)) else (none)) else (spec_pgGood.l0 k x0 x3 x17 x18 (wrap64 (x19 + 1)))
def spec_pgGood.l2 : Nat → List (S_impl_Peg) → Int → List (S_impl_Peg) → Int → Int → Option (Bool)
 | 0, _, _, _, _, _ => none
 | k + 1, x0, x3, x40, x41, x42 => if x42 < x41 then (if 0 ≤ x42 then (if x42 < (x40.length : Int) then (if x3 = 0 then (none) else (if 0 ≤ (Int.tmod (wrap64 (x42 + 1)) x3) then (if (Int.tmod (wrap64 (x42 + 1)) x3) < (x0.length : Int) then (if 0 ≤ (Int.tmod (wrap64 (x42 + 2)) x3) then (if (Int.tmod (wrap64 (x42 + 2)) x3) < (x0.length : Int) then ((spec_pgTurn.f ((rd_impl_Peg x40 x42).f0) ((rd_impl_Peg x40 x42).f1) ((rd_impl_Peg x0 (Int.tmod (wrap64 (x42 + 1)) x3)).f0) ((rd_impl_Peg x0 (Int.tmod (wrap64 (x42 + 1)) x3)).f1) ((rd_impl_Peg x0 (Int.tmod (wrap64 (x42 + 2)) x3)).f0) ((rd_impl_Peg x0 (Int.tmod (wrap64 (x42 + 2)) x3)).f1)).bind fun t142 => (if t142 = 0 then (some false) else (spec_pgGood.l3 k x0 x3 x42 (wrap64 (x42 + 2)) x40 x41 x42 ((rd_impl_Peg x40 x42).f0) ((rd_impl_Peg x40 x42).f1) ((rd_impl_Peg x0 (Int.tmod (wrap64 (x42 + 1)) x3)).f0) ((rd_impl_Peg x0 (Int.tmod (wrap64 (x42 + 1)) x3)).f1)))) else (none)) else (none)) else (none)) else (none))) else (none)) else (none)) else (some true)
def spec_pgGood.l3 : Nat → List (S_impl_Peg) → Int → Int → Int → List (S_impl_Peg) → Int → Int → Int → Int → Int → Int → Option (Bool)
 | 0, _, _, _, _, _, _, _, _, _, _, _ => none
 | k + 1, x0, x3, x8, x11, x40, x41, x42, x139000, x139001, x141000, x141001 => if x11 < x3 then (spec_pgGood.j4 k x0 x3 x8 x11 x40 x41 x42 (decide ((wrap64 (x11 - x8)) < (wrap64 (x3 - 1)))) x139000 x139001 x141000 x141001) else (spec_pgGood.j4 k x0 x3 x8 x11 x40 x41 x42 false x139000 x139001 x141000 x141001)
def spec_pgGood.j4 : Nat → List (S_impl_Peg) → Int → Int → Int → List (S_impl_Peg) → Int → Int → Bool → Int → Int → Int → Int → Option (Bool)
 | 0, _, _, _, _, _, _, _, _, _, _, _, _ => none
 | k + 1, x0, x3, x8, x11, x40, x41, x42, x77, x139000, x139001, x141000, x141001 => if x77 = true then (if 0 ≤ x11 then (if x11 < (x0.length : Int) then (if x3 = 0 then (none) else (if 0 ≤ (Int.tmod (wrap64 (x11 + 1)) x3) then (if (Int.tmod (wrap64 (x11 + 1)) x3) < (x0.length : Int) then ((spec_pgMeet.f k x139000 x139001 x141000 x141001 ((rd_impl_Peg x0 x11).f0) ((rd_impl_Peg x0 x11).f1) ((rd_impl_Peg x0 (Int.tmod (wrap64 (x11 + 1)) x3)).f0) ((rd_impl_Peg x0 (Int.tmod (wrap64 (x11 + 1)) x3)).f1)).bind fun t145 => (if t145 = true then (some false) else (spec_pgGood.l3 k x0 x3 x8 (wrap64 (x11 + 1)) x40 x41 x42 x139000 x139001 x141000 x141001))) else (none)) else (none))) else (none)) else (none)) else (spec_pgGood.l2 k x0 x3 x40 x41 (wrap64 (x42 + 1)))
end
def spec_pgGood.f (k : Nat) (l0 : List (S_impl_Peg)) : Option (Bool) := (spec_l1In.f (l0.length : Int) 3 10).bind fun t127 => (if t127 = true then (spec_pgGood.l0 k l0 (l0.length : Int) l0 (l0.length : Int) 0) else (some false))
theorem spec_pgGood.mono_l : ∀ k, (∀ y0 y1 y2 y3 y4, LeO (spec_pgGood.l0 k y0 y1 y2 y3 y4) (spec_pgGood.l0 (k + 1) y0 y1 y2 y3 y4)) ∧ (∀ y0 y1 y2 y3 y4 y5 y6 y7 y8 y9, LeO (spec_pgGood.l1 k y0 y1 y2 y3 y4 y5 y6 y7 y8 y9) (spec_pgGood.l1 (k + 1) y0 y1 y2 y3 y4 y5 y6 y7 y8 y9)) ∧ (∀ y0 y1 y2 y3 y4, LeO (spec_pgGood.l2 k y0 y1 y2 y3 y4) (spec_pgGood.l2 (k + 1) y0 y1 y2 y3 y4)) ∧ (∀ y0 y1 y2 y3 y4 y5 y6 y7 y8 y9 y10, LeO (spec_pgGood.l3 k y0 y1 y2 y3 y4 y5 y6 y7 y8 y9 y10) (spec_pgGood.l3 (k + 1) y0 y1 y2 y3 y4 y5 y6 y7 y8 y9 y10)) ∧ (∀ y0 y1 y2 y3 y4 y5 y6 y7 y8 y9 y10 y11, LeO (spec_pgGood.j4 k y0 y1 y2 y3 y4 y5 y6 y7 y8 y9 y10 y11) (spec_pgGood.j4 (k + 1) y0 y1 y2 y3 y4 y5 y6 y7 y8 y9 y10 y11))
 | 0 => ⟨fun _ _ _ _ _ r h => by simp [spec_pgGood.l0] at h, fun _ _ _ _ _ _ _ _ _ _ r h => by simp [spec_pgGood.l1] at h, fun _ _ _ _ _ r h => by simp [spec_pgGood.l2] at h, fun _ _ _ _ _ _ _ _ _ _ _ r h => by simp [spec_pgGood.l3] at h, fun _ _ _ _ _ _ _ _ _ _ _ _ r h => by simp [spec_pgGood.j4] at h⟩
 | k + 1 => by
  obtain ⟨ih0, ih1, ih2, ih3, ih4⟩ := spec_pgGood.mono_l k
  refine ⟨?_, ?_, ?_, ?_, ?_⟩ <;> intros <;> (first | unfold spec_pgGood.l0 | unfold spec_pgGood.l1 | unfold spec_pgGood.l2 | unfold spec_pgGood.l3 | unfold spec_pgGood.j4) <;> repeat' first | (with_reducible exact ih0 _ _ _ _ _) | (with_reducible exact ih1 _ _ _ _ _ _ _ _ _ _) | (with_reducible exact ih2 _ _ _ _ _) | (with_reducible exact ih3 _ _ _ _ _ _ _ _ _ _ _) | (with_reducible exact ih4 _ _ _ _ _ _ _ _ _ _ _ _) | (with_reducible exact spec_pgMeet.mono _ _ _ _ _ _ _ _ _) | (with_reducible exact LeO.refl _) | (with_reducible exact LeO.none _) | (with_reducible refine LeO.ite ?_ ?_) | (with_reducible refine LeO.bind ?_ (fun _ => ?_)) | exact ih0 _ _ _ _ _ | exact ih1 _ _ _ _ _ _ _ _ _ _ | exact ih2 _ _ _ _ _ | exact ih3 _ _ _ _ _ _ _ _ _ _ _ | exact ih4 _ _ _ _ _ _ _ _ _ _ _ _ | exact spec_pgMeet.mono _ _ _ _ _ _ _ _ _ | exact LeO.none _ | refine LeO.ite ?_ ?_ | refine LeO.bind ?_ (fun _ => ?_)
theorem spec_pgGood.mono : ∀ a0 k, LeO (spec_pgGood.f k a0) (spec_pgGood.f (k + 1) a0) := by
 intro a0 k
 obtain ⟨ih0, ih1, ih2, ih3, ih4⟩ := spec_pgGood.mono_l k
 unfold spec_pgGood.f
 repeat' first | (with_reducible exact ih0 _ _ _ _ _) | (with_reducible exact ih1 _ _ _ _ _ _ _ _ _ _) | (with_reducible exact ih2 _ _ _ _ _) | (with_reducible exact ih3 _ _ _ _ _ _ _ _ _ _ _) | (with_reducible exact ih4 _ _ _ _ _ _ _ _ _ _ _ _) | (with_reducible exact spec_pgMeet.mono _ _ _ _ _ _ _ _ _) | (with_reducible exact LeO.refl _) | (with_reducible exact LeO.none _) | (with_reducible refine LeO.ite ?_ ?_) | (with_reducible refine LeO.bind ?_ (fun _ => ?_)) | exact ih0 _ _ _ _ _ | exact ih1 _ _ _ _ _ _ _ _ _ _ | exact ih2 _ _ _ _ _ | exact ih3 _ _ _ _ _ _ _ _ _ _ _ | exact ih4 _ _ _ _ _ _ _ _ _ _ _ _ | exact spec_pgMeet.mono _ _ _ _ _ _ _ _ _ | exact LeO.none _ | refine LeO.ite ?_ ?_ | refine LeO.bind ?_ (fun _ => ?_)
def spec_pgGood.T20 : Bool × List (List Nat × List Nat) := (true, [([], []), ([], []), ([], []), ([], []), ([3], [3]), ([], []), ([4, 5], [4, 5]), ([2, 6], [2, 6]), ([7], [7]), ([0, 1, 8], [0, 1, 8]), ([9], [9])])
def spec_pgGood.B20 : List Nat := [0, 0, 0, 0, 8, 0, 56, 124, 252, 511, 1023]
theorem spec_pgGood.tab20 : rtab .any (opsOf Try.f10 20) = spec_pgGood.T20 := by kernel_rfl
theorem spec_pgGood.bits20 : waitsOk spec_pgGood.T20.2 spec_pgGood.B20 = true := by kernel_rfl
def spec_pgGood.T25 : Bool × List (List Nat × List Nat) := (true, [([], []), ([], []), ([], []), ([], []), ([2, 3], [2, 3]), ([4], [4]), ([], []), ([], []), ([7], [7]), ([], []), ([8, 9], [8, 9]), ([6, 10], [6, 10]), ([11], [11]), ([0, 1, 5, 12], [0, 1, 5, 12])])
def spec_pgGood.B25 : List Nat := [0, 0, 0, 0, 12, 28, 0, 0, 128, 0, 896, 1984, 4032, 8191]
theorem spec_pgGood.tab25 : rtab .any (opsOf Try.f10 25) = spec_pgGood.T25 := by kernel_rfl
theorem spec_pgGood.bits25 : waitsOk spec_pgGood.T25.2 spec_pgGood.B25 = true := by kernel_rfl
set_option maxHeartbeats 8000000 in
set_option maxRecDepth 100000 in
theorem spec_pgGood.calls (k : Nat) (A0 : Option Addr) (c0 : Nat) (l0 : List (S_impl_Peg)) (r : Bool) (w : World) (hr0 : Kd.C kd_impl_Peg w A0 l0.length l0) (hc0 : l0.length ≤ c0) (h : spec_pgGood.f k l0 = some r) :
  Calls Try.prog 10 #[.slice A0 l0.length c0] w fun e w' => e = .returned (.bool r) ∧ Below w.heap.size w w' := by
 have hu38 := Try.underlying38; have HR0 := aM hr0; have HC0 := aM hc0; clear hr0 hc0; have HB := aM (Below.refl w.heap.size w)
 unfold spec_pgGood.f at h; have H := h; clear h
 replace H := bS H; obtain ⟨t127, A2, H⟩ := H
 by_cases c3 : t127 = true
 ·subst c3; replace H := iT H; have H' := aM H; clear H
  go_enter Try.func10, Try.ntmps10
  go_wp2_with (first | ((with_reducible refine gC (f := 22) rfl ?_); refine goesL_ (some 15) rfl rfl Try.func22 kR rfl #[.int .i64 (l0.length : Int), .int .i64 3, .int .i64 10] rfl sQ ?_; (with_reducible refine (spec_l1In.calls (l0.length : Int) 3 10 true _ A2.out).mono ?_); rintro e w' ⟨rfl, ⟨nd, rfl⟩⟩; refine ⟨_, rfl, ?_⟩))
  go_loopg [19] k (fun kq v19 w' => ∃ (x19_1 : Int), v19 = .int .i64 x19_1 ∧ Aside0 (spec_pgGood.l0 kq l0 (l0.length : Int) l0 (l0.length : Int) x19_1 = some r) ∧ Aside0 (kq ≤ k) ∧ Aside0 (Below w.heap.size w w'))
  case atStart => exact ⟨(0), eQ, H', ⟨Nat.le_refl _⟩, ⟨bQ⟩⟩
  case round =>
   clear H'; (try clear c3); obtain ⟨x19_1, rfl, HA, HK1, HB⟩ := hrel
   cases gk with
   | zero => exact absurd HA.out (by simp [spec_pgGood.l0])
   | succ k1 =>
    have H := HA.out; clear HA
    simp only [spec_pgGood.l0] at H
    by_cases c4 : x19_1 < (l0.length : Int)
    ·rw [if_pos c4] at H; have c4b0 := dE c4; clear c4; replace H := iD H; obtain ⟨c5b0, H⟩ := H; replace H := iD H; obtain ⟨c6b0, H⟩ := H; replace H := bS H; obtain ⟨t130, A7, H⟩ := H
     by_cases c8 : t130 = true
     ·subst c8; replace H := iT H; have c9b0 := eq_true (dT aQ : 0 ≤ x19_1); replace H := iN H; obtain ⟨c10, H⟩ := H; have c10b0 := eq_true c10; have c10b1 := dE c10; clear c10; replace H := lS H; obtain ⟨y131, Ny131, H⟩ := H; have H' := aM H; clear H; have p128 : 0 ≤ (x19_1 : Int) := dT aQ; have q128 : x19_1 < (l0.length : Int) := dT aQ; obtain ⟨ad128, e128, hx128_0, hx128_1⟩ := at_impl_Peg HR0.out x19_1 p128 q128
      cases e128
      replace hx128_0 := hC HB hx128_0; replace hx128_1 := hC HB hx128_1; replace p128 := eq_true p128; replace q128 := eq_true q128
      go_wp2_with (first | ((with_reducible refine gate_dst (N := 5) rfl ?_); refine bV 5 (cs := #[.int .i64 0, .int .i64 0]) (t := 38) rfl rfl (by first | (go_simp; done) | (go_simp; rfl)) ?_; intro gb129 hg w11 hbox hb; have BK129 := hbox; have GW129 := gZ HB hg; have GE129 := gZ HB hg; replace HB := tB HB hb; clear hb hbox hg; have hcz12_0 := vZ0 BK129; have hcz12_1 := vZ1 BK129; have hfz12_0 := kF BK129.out 0; have hfz12_1 := kF BK129.out 1) | ((with_reducible refine gC (f := 23) rfl ?_); refine goesL_ (some 25) rfl rfl Try.func23 kR rfl #[.agg #[.int .i64 ((rd_impl_Peg l0 x19_1).f0), .int .i64 ((rd_impl_Peg l0 x19_1).f1)]] rfl sQ ?_; (with_reducible refine (spec_pgIs.calls ((rd_impl_Peg l0 x19_1).f0) ((rd_impl_Peg l0 x19_1).f1) true _ A7.out).mono ?_); rintro e w13 ⟨rfl, hb⟩; refine ⟨_, rfl, ?_⟩; replace BK129 := aM (blk_below (g := gb129) (o := .cells #[.int .i64 ((rd_impl_Peg l0 x19_1).f0), .int .i64 ((rd_impl_Peg l0 x19_1).f1)] 38 (0, 0)) (fQ BK129) hb); replace HB := tB HB hb; (try clear hb); (try clear hb2); (try clear hk); (try clear hi); have q14 : (x19_1 : Int) ≤ ((l0.length : Int) : Int) := dT aQ; obtain ⟨i014, hi014, _, hsz14, _⟩ := info_parts info38; have hroom14 : l0.length ≤ c0 := HC0.out; have hC14 : Kd.C kd_impl_Peg _ (some ad128) l0.length l0 := HR0.out; have hcut14 := cut_to (P := Try.prog) 28 38 .i64 Try.underlying28 hi014 (some ad128) l0.length c0 x19_1 (dT aQ) q14 hroom14; have hr14 := Kd.C_take (m := (x19_1 : Int).toNat) hC14 (by omega); have hy14 : y131.length = (x19_1 : Int).toNat := (by rw [Ny131.out, lT]; omega); rw [← Ny131.out] at hr14; rw [← hy14] at hcut14; have HR134 := aM hr14; have HC134 := aM (show y131.length ≤ c0 from by omega); clear hr14 hC14 hroom14 hi014 hsz14; have KY14 := aM hy14; clear hy14; replace q14 := eq_true q14))
      go_loopg [31] k1 (fun kq v31 w' => ∃ (x31_2 : Int), v31 = .int .i64 x31_2 ∧ Aside0 (spec_pgGood.l1 kq l0 (l0.length : Int) l0 (l0.length : Int) x19_1 y131 (y131.length : Int) x31_2 ((rd_impl_Peg l0 x19_1).f0) ((rd_impl_Peg l0 x19_1).f1) = some r) ∧ Aside0 (kq ≤ k1) ∧ Aside0 (w'.heap[gb129]? = some (.cells #[.int .i64 ((rd_impl_Peg l0 x19_1).f0), .int .i64 ((rd_impl_Peg l0 x19_1).f1)] 38 (0, 0))) ∧ Aside0 (Below w.heap.size w w'))
      case atStart => exact ⟨(0), eQ, H', ⟨Nat.le_refl _⟩, ⟨gQ BK129⟩, ⟨bE⟩⟩
      case round =>
       clear H'; (try clear c3); (try clear c4); (try clear c4b0); (try clear c5b0); (try clear c6b0); (try clear c8); (try clear c9b0); (try clear c10); (try clear c10b0); (try clear c10b1); (try clear q14); (try clear hcz12_0); (try clear hcz12_1); (try clear hfz12_0); (try clear hfz12_1); (try clear hx128_0); (try clear hx128_1); (try clear p128); (try clear q128); obtain ⟨x31_2, rfl, HA, HK2, BK129, HB⟩ := hrel
       cases gk with
       | zero => exact absurd HA.out (by simp [spec_pgGood.l1])
       | succ k2 =>
        have H := HA.out; clear HA
        simp only [spec_pgGood.l1] at H
        by_cases c15 : x31_2 < (y131.length : Int)
        ·rw [if_pos c15] at H; have c15b0 := dE c15; clear c15; replace H := iD H; obtain ⟨c16b0, H⟩ := H; replace H := iD H; obtain ⟨c17b0, H⟩ := H
         by_cases c18 : (((rd_impl_Peg l0 x19_1).f0) == ((rd_impl_Peg y131 x31_2).f0) && (((rd_impl_Peg l0 x19_1).f1) == ((rd_impl_Peg y131 x31_2).f1))) = true
         ·rw [if_pos c18] at H; have c18b0 := c18
          (try (have c18b1 : decide (((rd_impl_Peg l0 x19_1).f0) = ((rd_impl_Peg y131 x31_2).f0) && (((rd_impl_Peg l0 x19_1).f1) == ((rd_impl_Peg y131 x31_2).f1))) = true := by simpa using c18))
          (try (have c18b2 : (((rd_impl_Peg l0 x19_1).f0) == ((rd_impl_Peg y131 x31_2).f0) && (((rd_impl_Peg l0 x19_1).f1) == ((rd_impl_Peg y131 x31_2).f1))) = true := by simpa using c18))
          clear c18; obtain rfl := Option.some.inj H; have p135 : 0 ≤ (x31_2 : Int) := dT aQ; have q135 : x31_2 < (y131.length : Int) := dT aQ; obtain ⟨ad135, e135, hx135_0, hx135_1⟩ := at_impl_Peg HR134.out x31_2 p135 q135; obtain rfl : ad128 = ad135 := (by injection e135)
          replace hx135_0 := hC HB hx135_0; replace hx135_1 := hC HB hx135_1; replace p135 := eq_true p135; replace q135 := eq_true q135
          go_wp2_with (first | ((with_reducible refine gate_dst (N := 7) rfl ?_); refine bV 7 (cs := #[.int .i64 0, .int .i64 0]) (t := 38) rfl rfl (by first | (go_simp; done) | (go_simp; rfl)) ?_; intro gb136 hg w19 hbox hb; have BK136 := hbox; have GW136 := gZ HB hg; have GE136 := gZ HB hg; have NB129_136 := nG BK129 hg; have NB136_129 := nH BK129 hg; replace BK129 := bB BK129 hb; replace HB := tB HB hb; clear hb hbox hg; have hnb20 := NB136_129.out; have hnc20 := NB129_136.out; have hcz21_0 := vZ0 BK136; have hcz21_1 := vZ1 BK136; have hfz21_0 := kF BK136.out 0; have hfz21_1 := kF BK136.out 1; have hcz22_0 := vZ0 BK129; have hcz22_1 := vZ1 BK129; have hfz22_0 := kF BK129.out 0; have hfz22_1 := kF BK129.out 1))
          go_ret
          exact ⟨wQ, bE⟩
         ·rw [if_neg c18] at H; have c18b0 : (((rd_impl_Peg l0 x19_1).f0) == ((rd_impl_Peg y131 x31_2).f0) && (((rd_impl_Peg l0 x19_1).f1) == ((rd_impl_Peg y131 x31_2).f1))) = false := by simpa using c18
          (try (have c18b1 : decide (((rd_impl_Peg l0 x19_1).f0) = ((rd_impl_Peg y131 x31_2).f0) && (((rd_impl_Peg l0 x19_1).f1) == ((rd_impl_Peg y131 x31_2).f1))) = false := by simpa using c18))
          (try (have c18b2 : (((rd_impl_Peg l0 x19_1).f0) == ((rd_impl_Peg y131 x31_2).f0) && (((rd_impl_Peg l0 x19_1).f1) == ((rd_impl_Peg y131 x31_2).f1))) = false := by simpa using c18))
          (try (have c18b3 : ¬ (((rd_impl_Peg l0 x19_1).f0) = ((rd_impl_Peg y131 x31_2).f0) && (((rd_impl_Peg l0 x19_1).f1) == ((rd_impl_Peg y131 x31_2).f1))) := by simpa using c18))
          clear c18; have H' := aM H; clear H; have p135 : 0 ≤ (x31_2 : Int) := dT aQ; have q135 : x31_2 < (y131.length : Int) := dT aQ; obtain ⟨ad135, e135, hx135_0, hx135_1⟩ := at_impl_Peg HR134.out x31_2 p135 q135; obtain rfl : ad128 = ad135 := (by injection e135)
          replace hx135_0 := hC HB hx135_0; replace hx135_1 := hC HB hx135_1; replace p135 := eq_true p135; replace q135 := eq_true q135
          go_wp2_with (first | ((with_reducible refine gate_dst (N := 7) rfl ?_); refine bV 7 (cs := #[.int .i64 0, .int .i64 0]) (t := 38) rfl rfl (by first | (go_simp; done) | (go_simp; rfl)) ?_; intro gb136 hg w23 hbox hb; have BK136 := hbox; have GW136 := gZ HB hg; have GE136 := gZ HB hg; have NB129_136 := nG BK129 hg; have NB136_129 := nH BK129 hg; replace BK129 := bB BK129 hb; replace HB := tB HB hb; clear hb hbox hg; have hnb24 := NB136_129.out; have hnc24 := NB129_136.out; have hcz25_0 := vZ0 BK136; have hcz25_1 := vZ1 BK136; have hfz25_0 := kF BK136.out 0; have hfz25_1 := kF BK136.out 1; have hcz26_0 := vZ0 BK129; have hcz26_1 := vZ1 BK129; have hfz26_0 := kF BK129.out 0; have hfz26_1 := kF BK129.out 1))
          go_roundg k2
          case measure => have := HK1.out; have := HK2.out; omega
          case rel => exact ⟨(wrap64 (x31_2 + 1)), eQ, H', ⟨by have := HK1.out; have := HK2.out; omega⟩, ⟨fQ BK129⟩, ⟨bE⟩⟩
        ·rw [if_neg c15] at H; have c15b0 := decide_eq_false c15; clear c15; have H' := aM H; clear H; go_wp2
         go_roundg k2
         case measure => have := HK1.out; have := HK2.out; omega
         case rel => exact ⟨(wrap64 (x19_1 + 1)), eQ, H', ⟨by have := HK1.out; have := HK2.out; omega⟩, ⟨bE⟩⟩
     ·replace c8 := Bool.eq_false_iff.mpr c8; subst c8; replace H := iF H; obtain rfl := Option.some.inj H; have p128 : 0 ≤ (x19_1 : Int) := dT aQ; have q128 : x19_1 < (l0.length : Int) := dT aQ; obtain ⟨ad128, e128, hx128_0, hx128_1⟩ := at_impl_Peg HR0.out x19_1 p128 q128
      cases e128
      replace hx128_0 := hC HB hx128_0; replace hx128_1 := hC HB hx128_1; replace p128 := eq_true p128; replace q128 := eq_true q128
      go_wp2_with (first | ((with_reducible refine gate_dst (N := 5) rfl ?_); refine bV 5 (cs := #[.int .i64 0, .int .i64 0]) (t := 38) rfl rfl (by first | (go_simp; done) | (go_simp; rfl)) ?_; intro gb129 hg w27 hbox hb; have BK129 := hbox; have GW129 := gZ HB hg; have GE129 := gZ HB hg; replace HB := tB HB hb; clear hb hbox hg; have hcz28_0 := vZ0 BK129; have hcz28_1 := vZ1 BK129; have hfz28_0 := kF BK129.out 0; have hfz28_1 := kF BK129.out 1) | ((with_reducible refine gC (f := 23) rfl ?_); refine goesL_ (some 25) rfl rfl Try.func23 kR rfl #[.agg #[.int .i64 ((rd_impl_Peg l0 x19_1).f0), .int .i64 ((rd_impl_Peg l0 x19_1).f1)]] rfl sQ ?_; (with_reducible refine (spec_pgIs.calls ((rd_impl_Peg l0 x19_1).f0) ((rd_impl_Peg l0 x19_1).f1) false _ A7.out).mono ?_); rintro e w29 ⟨rfl, hb⟩; refine ⟨_, rfl, ?_⟩; replace BK129 := aM (blk_below (g := gb129) (o := .cells #[.int .i64 ((rd_impl_Peg l0 x19_1).f0), .int .i64 ((rd_impl_Peg l0 x19_1).f1)] 38 (0, 0)) (fQ BK129) hb); replace HB := tB HB hb; (try clear hb); (try clear hb2); (try clear hk); (try clear hi)))
      go_ret
      exact ⟨wQ, bE⟩
    ·rw [if_neg c4] at H; have c4b0 := decide_eq_false c4; clear c4; have H' := aM H; clear H; go_wp2
     go_loopg [42] k1 (fun kq v42 w' => ∃ (x42_2 : Int), v42 = .int .i64 x42_2 ∧ Aside0 (spec_pgGood.l2 kq l0 (l0.length : Int) l0 (l0.length : Int) x42_2 = some r) ∧ Aside0 (kq ≤ k1) ∧ Aside0 (Below w.heap.size w w'))
     case atStart => exact ⟨(0), eQ, H', ⟨Nat.le_refl _⟩, ⟨bQ⟩⟩
     case round =>
      clear H'; (try clear c3); (try clear c4); (try clear c4b0); (try clear c5b0); (try clear c6b0); (try clear c8); obtain ⟨x42_2, rfl, HA, HK2, HB⟩ := hrel
      cases gk with
      | zero => exact absurd HA.out (by simp [spec_pgGood.l2])
      | succ k2 =>
       have H := HA.out; clear HA
       simp only [spec_pgGood.l2] at H
       by_cases c30 : x42_2 < (l0.length : Int)
       ·rw [if_pos c30] at H; have c30b0 := dE c30; clear c30; replace H := iD H; obtain ⟨c31b0, H⟩ := H; replace H := iD H; obtain ⟨c32b0, H⟩ := H; replace H := iM H; obtain ⟨c33, H⟩ := H; have c33b0 : ((l0.length : Int) == 0) = false := beq_eq_false_iff_ne.mpr c33; have c33b1 : ((l0.length : Int) != 0) = true := bne_iff_ne.mpr c33; have c33b2 : ¬ (l0 = []) := fun h_ => c33 (by rw [h_]; rfl)
        obtain ⟨ji34, hji34⟩ : ∃ j_ : Int, (Int.tmod (wrap64 (x42_2 + 1)) (l0.length : Int)) = j_ := ⟨_, rfl⟩
        (first | rw [hji34] at H | simp only [hji34] at H)
        replace H := iD H; obtain ⟨c35b0, H⟩ := H; replace H := iD H; obtain ⟨c36b0, H⟩ := H; obtain ⟨ji37, hji37⟩ : ∃ j_ : Int, (Int.tmod (wrap64 (x42_2 + 2)) (l0.length : Int)) = j_ := ⟨_, rfl⟩
        (first | rw [hji37] at H | simp only [hji37] at H)
        replace H := iD H; obtain ⟨c38b0, H⟩ := H; replace H := iD H; obtain ⟨c39b0, H⟩ := H; replace H := bS H; obtain ⟨t142, A40, H⟩ := H
        by_cases c41 : t142 = 0
        ·rw [if_pos c41] at H; have c41b0 : (t142 == 0) = true := beq_iff_eq.mpr c41; have c41b1 : (t142 != 0) = false := bne_eq_false_iff_eq.mpr c41; clear c41; obtain rfl := Option.some.inj H; have p137 : 0 ≤ (x42_2 : Int) := dT aQ; have q137 : x42_2 < (l0.length : Int) := dT aQ; obtain ⟨ad137, e137, hx137_0, hx137_1⟩ := at_impl_Peg HR0.out x42_2 p137 q137
         cases e137
         replace hx137_0 := hC HB hx137_0; replace hx137_1 := hC HB hx137_1; replace p137 := eq_true p137; replace q137 := eq_true q137
         try go_wp2_with (first | ((with_reducible refine gate_dst (N := 9) rfl ?_); refine bV 9 (cs := #[.int .i64 0, .int .i64 0]) (t := 38) rfl rfl (by first | (go_simp; done) | (go_simp; rfl)) ?_; intro gb138 hg w42 hbox hb; have BK138 := hbox; have GW138 := gZ HB hg; have GE138 := gZ HB hg; replace HB := tB HB hb; clear hb hbox hg; have hcz43_0 := vZ0 BK138; have hcz43_1 := vZ1 BK138; have hfz43_0 := kF BK138.out 0; have hfz43_1 := kF BK138.out 1; have p139 : 0 ≤ ((ji34) : Int) := dT aQ; have q139 : (ji34) < (l0.length : Int) := dT aQ; obtain ⟨ad139, e139, hx139_0, hx139_1⟩ := at_impl_Peg HR0.out (ji34) p139 q139; obtain rfl : ad137 = ad139 := (by injection e139); have hn139_0 : ad137.block ≠ gb138 := nN (nL (by have := wB _ _ hx139_0; first | rwa [add_block] at this | exact this) GW138.out); have hn139_1 : ad137.block ≠ gb138 := nN (nL (by have := wB _ _ hx139_0; first | rwa [add_block] at this | exact this) GW138.out); replace hx139_0 := hC HB hx139_0; replace hx139_1 := hC HB hx139_1; replace hx139_0 := (cell_far (p := ⟨gb138, 0, none⟩) (by first | (rw [add_block]; exact hn139_0) | (show (Addr.add _ _).block ≠ _; rw [add_block]; exact hn139_0) | exact hn139_0) (.int .i64 ((rd_impl_Peg l0 x42_2).f0))).trans hx139_0; replace hx139_1 := (cell_far (p := ⟨gb138, 0, none⟩) (by first | (rw [add_block]; exact hn139_0) | (show (Addr.add _ _).block ≠ _; rw [add_block]; exact hn139_0) | exact hn139_0) (.int .i64 ((rd_impl_Peg l0 x42_2).f0))).trans hx139_1; replace hx139_0 := (cell_far (p := ⟨gb138, 1, none⟩) (by first | (rw [add_block]; exact hn139_1) | (show (Addr.add _ _).block ≠ _; rw [add_block]; exact hn139_1) | exact hn139_1) (.int .i64 ((rd_impl_Peg l0 x42_2).f1))).trans hx139_0; replace hx139_1 := (cell_far (p := ⟨gb138, 1, none⟩) (by first | (rw [add_block]; exact hn139_1) | (show (Addr.add _ _).block ≠ _; rw [add_block]; exact hn139_1) | exact hn139_1) (.int .i64 ((rd_impl_Peg l0 x42_2).f1))).trans hx139_1; clear hn139_0; clear hn139_1; replace p139 := eq_true p139; replace q139 := eq_true q139) | ((with_reducible refine gate_dst (N := 10) rfl ?_); refine bV 10 (cs := #[.int .i64 0, .int .i64 0]) (t := 38) rfl rfl (by first | (go_simp; done) | (go_simp; rfl)) ?_; intro gb140 hg w44 hbox hb; have BK140 := hbox; have GW140 := gZ HB hg; have GE140 := gZ HB hg; have NB138_140 := aM ((by rw [hg]; exact nN (blk_lt (g := gb138) (o := .cells #[.int .i64 ((rd_impl_Peg l0 x42_2).f0), .int .i64 ((rd_impl_Peg l0 x42_2).f1)] 38 (0, 0)) (fQ BK138)) : gb138 ≠ gb140)); have NB140_138 := aM ((by rw [hg]; exact Nat.ne_of_gt (blk_lt (g := gb138) (o := .cells #[.int .i64 ((rd_impl_Peg l0 x42_2).f0), .int .i64 ((rd_impl_Peg l0 x42_2).f1)] 38 (0, 0)) (fQ BK138)) : gb140 ≠ gb138)); replace BK138 := aM (blk_below (g := gb138) (o := .cells #[.int .i64 ((rd_impl_Peg l0 x42_2).f0), .int .i64 ((rd_impl_Peg l0 x42_2).f1)] 38 (0, 0)) (fQ BK138) hb); replace HB := tB HB hb; clear hb hbox hg; have hnb45 := NB140_138.out; have hnc45 := NB138_140.out; have hcz46_0 := vZ0 BK140; have hcz46_1 := vZ1 BK140; have hfz46_0 := kF BK140.out 0; have hfz46_1 := kF BK140.out 1))
         have n0_ : Aside0 (((w44.setCell ⟨gb140, 0, none⟩ (.int .i64 ((rd_impl_Peg l0 (ji34)).f0))).setCell ⟨gb140, 1, none⟩ (.int .i64 ((rd_impl_Peg l0 (ji34)).f1))).heap[gb138]? = some (.cells #[.int .i64 ((rd_impl_Peg l0 x42_2).f0), .int .i64 ((rd_impl_Peg l0 x42_2).f1)] 38 (0, 0))) := ⟨fQ BK138⟩; have n1_ : Aside0 (((w44.setCell ⟨gb140, 0, none⟩ (.int .i64 ((rd_impl_Peg l0 (ji34)).f0))).setCell ⟨gb140, 1, none⟩ (.int .i64 ((rd_impl_Peg l0 (ji34)).f1))).heap[gb140]? = some (.cells #[.int .i64 ((rd_impl_Peg l0 (ji34)).f0), .int .i64 ((rd_impl_Peg l0 (ji34)).f1)] 38 (0, 0))) := ⟨fQ BK140⟩; have n2_ : Aside0 (Below w.heap.size w ((w44.setCell ⟨gb140, 0, none⟩ (.int .i64 ((rd_impl_Peg l0 (ji34)).f0))).setCell ⟨gb140, 1, none⟩ (.int .i64 ((rd_impl_Peg l0 (ji34)).f1)))) := ⟨bE⟩; (try clear BK138); (try clear BK140); (try clear HB)
         generalize ((w44.setCell ⟨gb140, 0, none⟩ (.int .i64 ((rd_impl_Peg l0 (ji34)).f0))).setCell ⟨gb140, 1, none⟩ (.int .i64 ((rd_impl_Peg l0 (ji34)).f1))) = w47 at n0_ n1_ n2_ ⊢
         have BK138 := n0_; have BK140 := n1_; have HB := n2_; clear n0_ n1_ n2_; replace BK138 := aM (kD BK138.out); replace BK140 := aM (kD BK140.out); replace HB := aM (pD HB.out); have p141 : 0 ≤ ((ji37) : Int) := dT aQ; have q141 : (ji37) < (l0.length : Int) := dT aQ; obtain ⟨ad141, e141, hx141_0, hx141_1⟩ := at_impl_Peg HR0.out (ji37) p141 q141; have hw141_1 := hx141_1; have hw141_0 := hx141_0; obtain rfl : ad137 = ad141 := (by injection e141)
         replace hx141_0 := hC HB hx141_0; replace hx141_1 := hC HB hx141_1; replace p141 := eq_true p141; replace q141 := eq_true q141
         refine start_ (n := 11) (S := fun w' => w'.cell? ⟨gb138, 0, none⟩ = some (.int .i64 ((rd_impl_Peg l0 x42_2).f0)) ∧ w'.cell? ⟨gb138, 1, none⟩ = some (.int .i64 ((rd_impl_Peg l0 x42_2).f1)) ∧ w'.cell? ⟨gb140, 0, none⟩ = some (.int .i64 ((rd_impl_Peg l0 (ji34)).f0)) ∧ w'.cell? ⟨gb140, 1, none⟩ = some (.int .i64 ((rd_impl_Peg l0 (ji34)).f1)) ∧ w'.cell? (ad137.add (((ji37)).toNat * 2)) = some (.int .i64 ((rd_impl_Peg l0 (ji37)).f0)) ∧ w'.cell? ⟨(ad137.add (((ji37)).toNat * 2)).block, (ad137.add (((ji37)).toNat * 2)).off + 1, none⟩ = some (.int .i64 ((rd_impl_Peg l0 (ji37)).f1))) (ds := []) (bA 11 0) kR rfl kR ⟨vZ0 BK138, vZ1 BK138, vZ0 BK140, vZ1 BK140, (hC HB hw141_0 :), (hC HB hw141_1 :)⟩ (fun hHeld => ?_); refine with_tabW spec_pgGood.tab20 spec_pgGood.bits20 (fun HT_ HW_ => ?_)
         generalize w47.drew = w48 at BK138 BK140 HB hx141_0 hx141_1 hHeld ⊢
         refine pU 2 56 (bA 11 4) HT_ ?_; refine pU 3 57 (bA 11 12) HT_ ?_; refine pU 4 58 (bA 11 28) HT_ ?_; refine pU 5 59 (bA 11 60) HT_ ?_; refine pU 6 60 (bA 11 124) HT_ ?_; refine pU 7 61 (bA 11 252) HT_ ?_
         refine tU 0 54 (bA 11 253) HT_ HW_ hHeld ?_ (hy := Or.inl ⟨by rfl, by rintro w' ⟨s0, s1, s2, s3, s4, s5⟩; go_simp; with_reducible rfl⟩)
         refine tU 1 55 (bA 11 255) HT_ HW_ hHeld ?_ (hy := Or.inl ⟨by rfl, by rintro w' ⟨s0, s1, s2, s3, s4, s5⟩; go_simp; with_reducible rfl⟩)
         refine tU 8 62 (bA 11 511) HT_ HW_ hHeld ?_ (hy := Or.inl ⟨by rfl, by rintro w' ⟨s0, s1, s2, s3, s4, s5⟩; go_simp; with_reducible rfl⟩)
         refine oU 9 63 (bA 11 1023) HT_ (fun K hK => ?_)
         refine goes_ Try.func24 kR rfl #[.agg #[.int .i64 ((rd_impl_Peg l0 x42_2).f0), .int .i64 ((rd_impl_Peg l0 x42_2).f1)], .agg #[.int .i64 ((rd_impl_Peg l0 (ji34)).f0), .int .i64 ((rd_impl_Peg l0 (ji34)).f1)], .agg #[.int .i64 ((rd_impl_Peg l0 (ji37)).f0), .int .i64 ((rd_impl_Peg l0 (ji37)).f1)]] (by rfl) rfl rfl (by (try simp only [mA, mC, mN]); first | done | (simp only [hji34, hji37]; rfl) | rfl | (simp only [lD, lT]; rfl)) ?_
         with_reducible refine (spec_pgTurn.calls ((rd_impl_Peg l0 x42_2).f0) ((rd_impl_Peg l0 x42_2).f1) ((rd_impl_Peg l0 (ji34)).f0) ((rd_impl_Peg l0 (ji34)).f1) ((rd_impl_Peg l0 (ji37)).f0) ((rd_impl_Peg l0 (ji37)).f1) t142 _ A40.out).mono ?_
         rintro e w49 ⟨rfl, hb⟩; refine ⟨_, rfl, ?_⟩; replace BK138 := bB BK138 hb; replace BK140 := bB BK140 hb; replace HB := tB HB hb; (try clear hb); (try clear hb2); (try clear hk); (try clear hi)
         refine hK.out _ _ ⟨vZ0 BK138, vZ1 BK138, vZ0 BK140, vZ1 BK140, (hC HB hw141_0 :), (hC HB hw141_1 :)⟩ (fun hHeld => ?_)
         clear hK K
         refine nU ?_
         refine pU 10 64 (bA 11 2047) HT_ ?_
         refine done_ (done_of HT_.out kR) ?_
         try go_wp2
         go_ret
         exact ⟨by first | rfl | (simp [errW_none, errW_some] <;> rfl) | (simp only [← hji34, ← hji37]; first | rfl | (simp [errW_none, errW_some] <;> rfl)) | (simp [*, errW_none, errW_some] <;> rfl), bE⟩
        ·rw [if_neg c41] at H; have c41b0 : (t142 == 0) = false := beq_eq_false_iff_ne.mpr c41; have c41b1 : (t142 != 0) = true := bne_iff_ne.mpr c41; have H' := aM H; clear H; have p137 : 0 ≤ (x42_2 : Int) := dT aQ; have q137 : x42_2 < (l0.length : Int) := dT aQ; obtain ⟨ad137, e137, hx137_0, hx137_1⟩ := at_impl_Peg HR0.out x42_2 p137 q137
         cases e137
         replace hx137_0 := hC HB hx137_0; replace hx137_1 := hC HB hx137_1; replace p137 := eq_true p137; replace q137 := eq_true q137
         try go_wp2_with (first | ((with_reducible refine gate_dst (N := 9) rfl ?_); refine bV 9 (cs := #[.int .i64 0, .int .i64 0]) (t := 38) rfl rfl (by first | (go_simp; done) | (go_simp; rfl)) ?_; intro gb138 hg w50 hbox hb; have BK138 := hbox; have GW138 := gZ HB hg; have GE138 := gZ HB hg; replace HB := tB HB hb; clear hb hbox hg; have hcz51_0 := vZ0 BK138; have hcz51_1 := vZ1 BK138; have hfz51_0 := kF BK138.out 0; have hfz51_1 := kF BK138.out 1; have p139 : 0 ≤ ((ji34) : Int) := dT aQ; have q139 : (ji34) < (l0.length : Int) := dT aQ; obtain ⟨ad139, e139, hx139_0, hx139_1⟩ := at_impl_Peg HR0.out (ji34) p139 q139; obtain rfl : ad137 = ad139 := (by injection e139); have hn139_0 : ad137.block ≠ gb138 := nN (nL (by have := wB _ _ hx139_0; first | rwa [add_block] at this | exact this) GW138.out); have hn139_1 : ad137.block ≠ gb138 := nN (nL (by have := wB _ _ hx139_0; first | rwa [add_block] at this | exact this) GW138.out); replace hx139_0 := hC HB hx139_0; replace hx139_1 := hC HB hx139_1; replace hx139_0 := (cell_far (p := ⟨gb138, 0, none⟩) (by first | (rw [add_block]; exact hn139_0) | (show (Addr.add _ _).block ≠ _; rw [add_block]; exact hn139_0) | exact hn139_0) (.int .i64 ((rd_impl_Peg l0 x42_2).f0))).trans hx139_0; replace hx139_1 := (cell_far (p := ⟨gb138, 0, none⟩) (by first | (rw [add_block]; exact hn139_0) | (show (Addr.add _ _).block ≠ _; rw [add_block]; exact hn139_0) | exact hn139_0) (.int .i64 ((rd_impl_Peg l0 x42_2).f0))).trans hx139_1; replace hx139_0 := (cell_far (p := ⟨gb138, 1, none⟩) (by first | (rw [add_block]; exact hn139_1) | (show (Addr.add _ _).block ≠ _; rw [add_block]; exact hn139_1) | exact hn139_1) (.int .i64 ((rd_impl_Peg l0 x42_2).f1))).trans hx139_0; replace hx139_1 := (cell_far (p := ⟨gb138, 1, none⟩) (by first | (rw [add_block]; exact hn139_1) | (show (Addr.add _ _).block ≠ _; rw [add_block]; exact hn139_1) | exact hn139_1) (.int .i64 ((rd_impl_Peg l0 x42_2).f1))).trans hx139_1; clear hn139_0; clear hn139_1; replace p139 := eq_true p139; replace q139 := eq_true q139) | ((with_reducible refine gate_dst (N := 10) rfl ?_); refine bV 10 (cs := #[.int .i64 0, .int .i64 0]) (t := 38) rfl rfl (by first | (go_simp; done) | (go_simp; rfl)) ?_; intro gb140 hg w52 hbox hb; have BK140 := hbox; have GW140 := gZ HB hg; have GE140 := gZ HB hg; have NB138_140 := aM ((by rw [hg]; exact nN (blk_lt (g := gb138) (o := .cells #[.int .i64 ((rd_impl_Peg l0 x42_2).f0), .int .i64 ((rd_impl_Peg l0 x42_2).f1)] 38 (0, 0)) (fQ BK138)) : gb138 ≠ gb140)); have NB140_138 := aM ((by rw [hg]; exact Nat.ne_of_gt (blk_lt (g := gb138) (o := .cells #[.int .i64 ((rd_impl_Peg l0 x42_2).f0), .int .i64 ((rd_impl_Peg l0 x42_2).f1)] 38 (0, 0)) (fQ BK138)) : gb140 ≠ gb138)); replace BK138 := aM (blk_below (g := gb138) (o := .cells #[.int .i64 ((rd_impl_Peg l0 x42_2).f0), .int .i64 ((rd_impl_Peg l0 x42_2).f1)] 38 (0, 0)) (fQ BK138) hb); replace HB := tB HB hb; clear hb hbox hg; have hnb53 := NB140_138.out; have hnc53 := NB138_140.out; have hcz54_0 := vZ0 BK140; have hcz54_1 := vZ1 BK140; have hfz54_0 := kF BK140.out 0; have hfz54_1 := kF BK140.out 1))
         have n0_ : Aside0 (((w52.setCell ⟨gb140, 0, none⟩ (.int .i64 ((rd_impl_Peg l0 (ji34)).f0))).setCell ⟨gb140, 1, none⟩ (.int .i64 ((rd_impl_Peg l0 (ji34)).f1))).heap[gb138]? = some (.cells #[.int .i64 ((rd_impl_Peg l0 x42_2).f0), .int .i64 ((rd_impl_Peg l0 x42_2).f1)] 38 (0, 0))) := ⟨fQ BK138⟩; have n1_ : Aside0 (((w52.setCell ⟨gb140, 0, none⟩ (.int .i64 ((rd_impl_Peg l0 (ji34)).f0))).setCell ⟨gb140, 1, none⟩ (.int .i64 ((rd_impl_Peg l0 (ji34)).f1))).heap[gb140]? = some (.cells #[.int .i64 ((rd_impl_Peg l0 (ji34)).f0), .int .i64 ((rd_impl_Peg l0 (ji34)).f1)] 38 (0, 0))) := ⟨fQ BK140⟩; have n2_ : Aside0 (Below w.heap.size w ((w52.setCell ⟨gb140, 0, none⟩ (.int .i64 ((rd_impl_Peg l0 (ji34)).f0))).setCell ⟨gb140, 1, none⟩ (.int .i64 ((rd_impl_Peg l0 (ji34)).f1)))) := ⟨bE⟩; (try clear BK138); (try clear BK140); (try clear HB)
         generalize ((w52.setCell ⟨gb140, 0, none⟩ (.int .i64 ((rd_impl_Peg l0 (ji34)).f0))).setCell ⟨gb140, 1, none⟩ (.int .i64 ((rd_impl_Peg l0 (ji34)).f1))) = w55 at n0_ n1_ n2_ ⊢
         have BK138 := n0_; have BK140 := n1_; have HB := n2_; clear n0_ n1_ n2_; replace BK138 := aM (kD BK138.out); replace BK140 := aM (kD BK140.out); replace HB := aM (pD HB.out); have p141 : 0 ≤ ((ji37) : Int) := dT aQ; have q141 : (ji37) < (l0.length : Int) := dT aQ; obtain ⟨ad141, e141, hx141_0, hx141_1⟩ := at_impl_Peg HR0.out (ji37) p141 q141; have hw141_1 := hx141_1; have hw141_0 := hx141_0; obtain rfl : ad137 = ad141 := (by injection e141)
         replace hx141_0 := hC HB hx141_0; replace hx141_1 := hC HB hx141_1; replace p141 := eq_true p141; replace q141 := eq_true q141
         refine start_ (n := 11) (S := fun w' => w'.cell? ⟨gb138, 0, none⟩ = some (.int .i64 ((rd_impl_Peg l0 x42_2).f0)) ∧ w'.cell? ⟨gb138, 1, none⟩ = some (.int .i64 ((rd_impl_Peg l0 x42_2).f1)) ∧ w'.cell? ⟨gb140, 0, none⟩ = some (.int .i64 ((rd_impl_Peg l0 (ji34)).f0)) ∧ w'.cell? ⟨gb140, 1, none⟩ = some (.int .i64 ((rd_impl_Peg l0 (ji34)).f1)) ∧ w'.cell? (ad137.add (((ji37)).toNat * 2)) = some (.int .i64 ((rd_impl_Peg l0 (ji37)).f0)) ∧ w'.cell? ⟨(ad137.add (((ji37)).toNat * 2)).block, (ad137.add (((ji37)).toNat * 2)).off + 1, none⟩ = some (.int .i64 ((rd_impl_Peg l0 (ji37)).f1))) (ds := []) (bA 11 0) kR rfl kR ⟨vZ0 BK138, vZ1 BK138, vZ0 BK140, vZ1 BK140, (hC HB hw141_0 :), (hC HB hw141_1 :)⟩ (fun hHeld => ?_); refine with_tabW spec_pgGood.tab20 spec_pgGood.bits20 (fun HT_ HW_ => ?_)
         generalize w55.drew = w56 at BK138 BK140 HB hx141_0 hx141_1 hHeld ⊢
         refine pU 2 56 (bA 11 4) HT_ ?_; refine pU 3 57 (bA 11 12) HT_ ?_; refine pU 4 58 (bA 11 28) HT_ ?_; refine pU 5 59 (bA 11 60) HT_ ?_; refine pU 6 60 (bA 11 124) HT_ ?_; refine pU 7 61 (bA 11 252) HT_ ?_
         refine tU 0 54 (bA 11 253) HT_ HW_ hHeld ?_ (hy := Or.inl ⟨by rfl, by rintro w' ⟨s0, s1, s2, s3, s4, s5⟩; go_simp; with_reducible rfl⟩)
         refine tU 1 55 (bA 11 255) HT_ HW_ hHeld ?_ (hy := Or.inl ⟨by rfl, by rintro w' ⟨s0, s1, s2, s3, s4, s5⟩; go_simp; with_reducible rfl⟩)
         refine tU 8 62 (bA 11 511) HT_ HW_ hHeld ?_ (hy := Or.inl ⟨by rfl, by rintro w' ⟨s0, s1, s2, s3, s4, s5⟩; go_simp; with_reducible rfl⟩)
         refine oU 9 63 (bA 11 1023) HT_ (fun K hK => ?_)
         refine goes_ Try.func24 kR rfl #[.agg #[.int .i64 ((rd_impl_Peg l0 x42_2).f0), .int .i64 ((rd_impl_Peg l0 x42_2).f1)], .agg #[.int .i64 ((rd_impl_Peg l0 (ji34)).f0), .int .i64 ((rd_impl_Peg l0 (ji34)).f1)], .agg #[.int .i64 ((rd_impl_Peg l0 (ji37)).f0), .int .i64 ((rd_impl_Peg l0 (ji37)).f1)]] (by rfl) rfl rfl (by (try simp only [mA, mC, mN]); first | done | (simp only [hji34, hji37]; rfl) | rfl | (simp only [lD, lT]; rfl)) ?_
         with_reducible refine (spec_pgTurn.calls ((rd_impl_Peg l0 x42_2).f0) ((rd_impl_Peg l0 x42_2).f1) ((rd_impl_Peg l0 (ji34)).f0) ((rd_impl_Peg l0 (ji34)).f1) ((rd_impl_Peg l0 (ji37)).f0) ((rd_impl_Peg l0 (ji37)).f1) t142 _ A40.out).mono ?_
         rintro e w57 ⟨rfl, hb⟩; refine ⟨_, rfl, ?_⟩; replace BK138 := bB BK138 hb; replace BK140 := bB BK140 hb; replace HB := tB HB hb; (try clear hb); (try clear hb2); (try clear hk); (try clear hi)
         refine hK.out _ _ ⟨vZ0 BK138, vZ1 BK138, vZ0 BK140, vZ1 BK140, (hC HB hw141_0 :), (hC HB hw141_1 :)⟩ (fun hHeld => ?_)
         clear hK K
         refine nU ?_
         refine pU 10 64 (bA 11 2047) HT_ ?_
         refine done_ (done_of HT_.out kR) ?_
         try go_wp2
         go_loopg [11] k2 (fun kq v11 w' => ∃ (x11_3 : Int), v11 = .int .i64 x11_3 ∧ Aside0 (spec_pgGood.l3 kq l0 (l0.length : Int) x42_2 x11_3 l0 (l0.length : Int) x42_2 ((rd_impl_Peg l0 x42_2).f0) ((rd_impl_Peg l0 x42_2).f1) ((rd_impl_Peg l0 (ji34)).f0) ((rd_impl_Peg l0 (ji34)).f1) = some r) ∧ Aside0 (kq ≤ k2) ∧ Aside0 (w'.heap[gb138]? = some (.cells #[.int .i64 ((rd_impl_Peg l0 x42_2).f0), .int .i64 ((rd_impl_Peg l0 x42_2).f1)] 38 (0, 0))) ∧ Aside0 (w'.heap[gb140]? = some (.cells #[.int .i64 ((rd_impl_Peg l0 (ji34)).f0), .int .i64 ((rd_impl_Peg l0 (ji34)).f1)] 38 (0, 0))) ∧ Aside0 (Below w.heap.size w w'))
         case atStart => exact ⟨(wrap64 (x42_2 + 2)), eQ, H', ⟨Nat.le_refl _⟩, ⟨gQ BK138⟩, ⟨gQ BK140⟩, ⟨bE⟩⟩
         case round =>
          clear H'; (try clear c3); (try clear c4); (try clear c4b0); (try clear c5b0); (try clear c6b0); (try clear c8); (try clear c30); (try clear c30b0); (try clear c31b0); (try clear c32b0); (try clear c33); (try clear c33b0); (try clear c33b1); (try clear c33b2); (try clear c35b0); (try clear c36b0); (try clear c38b0); (try clear c39b0); (try clear c41); (try clear c41b0); (try clear c41b1); (try clear hcz43_0); (try clear hcz43_1); (try clear hcz46_0); (try clear hcz46_1); (try clear hcz51_0); (try clear hcz51_1); (try clear hcz54_0); (try clear hcz54_1); (try clear hfz43_0); (try clear hfz43_1); (try clear hfz46_0); (try clear hfz46_1); (try clear hfz51_0); (try clear hfz51_1); (try clear hfz54_0); (try clear hfz54_1); (try clear hx137_0); (try clear hx137_1); (try clear hx139_0); (try clear hx139_1); (try clear hx141_0); (try clear hx141_1); (try clear p137); (try clear p139); (try clear p141); (try clear q137); (try clear q139); (try clear q141); obtain ⟨x11_3, rfl, HA, HK3, BK138, BK140, HB⟩ := hrel
          cases gk with
          | zero => exact absurd HA.out (by simp [spec_pgGood.l3])
          | succ k3 =>
           have H := HA.out; clear HA
           simp only [spec_pgGood.l3] at H
           have HC58 := aM H; clear H
           go_upto_region 23 with (fail)
           go_cut [77] (fun v77 wc => ∃ (kq : Nat) (x77_57 : Bool), v77 = .bool x77_57 ∧ Aside0 (spec_pgGood.j4 kq l0 (l0.length : Int) x42_2 x11_3 l0 (l0.length : Int) x42_2 x77_57 ((rd_impl_Peg l0 x42_2).f0) ((rd_impl_Peg l0 x42_2).f1) ((rd_impl_Peg l0 (ji34)).f0) ((rd_impl_Peg l0 (ji34)).f1) = some r) ∧ Aside0 (kq ≤ k3) ∧ Aside0 (wc.heap[gb138]? = some (.cells #[.int .i64 ((rd_impl_Peg l0 x42_2).f0), .int .i64 ((rd_impl_Peg l0 x42_2).f1)] 38 (0, 0))) ∧ Aside0 (wc.heap[gb140]? = some (.cells #[.int .i64 ((rd_impl_Peg l0 (ji34)).f0), .int .i64 ((rd_impl_Peg l0 (ji34)).f1)] 38 (0, 0))) ∧ Aside0 (Below w.heap.size w wc))
           case first =>
            have H := HC58.out; clear HC58
            by_cases c59 : x11_3 < (l0.length : Int)
            ·rw [if_pos c59] at H; have c59b0 := dE c59; clear c59
             (first | rw [c59b0] | (simp only [i64_w, i32_w]; rw [c59b0]) | skip)
             have H' := aM H; clear H; go_wp2
             go_meet
             case rel => exact ⟨_, (decide ((wrap64 (x11_3 - x42_2)) < (wrap64 ((l0.length : Int) - 1)))), eQ, H', ⟨by have := HK1.out; have := HK2.out; have := HK3.out; first | omega | exact Nat.le_refl _⟩, ⟨gQ BK138⟩, ⟨gQ BK140⟩, ⟨bE⟩⟩
            ·rw [if_neg c59] at H; have c59b0 := decide_eq_false c59; clear c59
             (first | rw [c59b0] | (simp only [i64_w, i32_w]; rw [c59b0]) | skip)
             have H' := aM H; clear H; go_wp2
             go_meet
             case rel => exact ⟨_, (false), eQ, H', ⟨by have := HK1.out; have := HK2.out; have := HK3.out; first | omega | exact Nat.le_refl _⟩, ⟨gQ BK138⟩, ⟨gQ BK140⟩, ⟨bE⟩⟩
           case rest =>
            clear HC58; (try clear c3); (try clear c4); (try clear c4b0); (try clear c5b0); (try clear c6b0); (try clear c8); (try clear c30); (try clear c30b0); (try clear c31b0); (try clear c32b0); (try clear c33); (try clear c33b0); (try clear c33b1); (try clear c33b2); (try clear c35b0); (try clear c36b0); (try clear c38b0); (try clear c39b0); (try clear c41); (try clear c41b0); (try clear c41b1); (try clear hcz43_0); (try clear hcz43_1); (try clear hcz46_0); (try clear hcz46_1); (try clear hcz51_0); (try clear hcz51_1); (try clear hcz54_0); (try clear hcz54_1); (try clear hfz43_0); (try clear hfz43_1); (try clear hfz46_0); (try clear hfz46_1); (try clear hfz51_0); (try clear hfz51_1); (try clear hfz54_0); (try clear hfz54_1); (try clear hx137_0); (try clear hx137_1); (try clear hx139_0); (try clear hx139_1); (try clear hx141_0); (try clear hx141_1); (try clear p137); (try clear p139); (try clear p141); (try clear q137); (try clear q139); (try clear q141); obtain ⟨kq, x77_57, rfl, HA, HJ57, BK138, BK140, HB⟩ := hcut
            cases kq with
            | zero => exact absurd HA.out (by simp [spec_pgGood.j4])
            | succ kj57 =>
             have H := HA.out; clear HA
             simp only [spec_pgGood.j4] at H
             by_cases c60 : x77_57 = true
             ·subst c60; replace H := iT H; replace H := iD H; obtain ⟨c61b0, H⟩ := H; replace H := iD H; obtain ⟨c62b0, H⟩ := H; replace H := iM H; obtain ⟨c63, H⟩ := H; have c63b0 : ((l0.length : Int) == 0) = false := beq_eq_false_iff_ne.mpr c63; have c63b1 : ((l0.length : Int) != 0) = true := bne_iff_ne.mpr c63; have c63b2 : ¬ (l0 = []) := fun h_ => c63 (by rw [h_]; rfl)
              obtain ⟨ji64, hji64⟩ : ∃ j_ : Int, (Int.tmod (wrap64 (x11_3 + 1)) (l0.length : Int)) = j_ := ⟨_, rfl⟩
              (first | rw [hji64] at H | simp only [hji64] at H)
              replace H := iD H; obtain ⟨c65b0, H⟩ := H; replace H := iD H; obtain ⟨c66b0, H⟩ := H; replace H := bS H; obtain ⟨t145, A67, H⟩ := H
              by_cases c68 : t145 = true
              ·subst c68; replace H := iT H; obtain rfl := Option.some.inj H
               try go_wp2
               replace BK138 := aM (kD BK138.out); replace BK140 := aM (kD BK140.out); replace HB := aM (pD HB.out); have p143 : 0 ≤ (x11_3 : Int) := dT aQ; have q143 : x11_3 < (l0.length : Int) := dT aQ; obtain ⟨ad143, e143, hx143_0, hx143_1⟩ := at_impl_Peg HR0.out x11_3 p143 q143; have hw143_1 := hx143_1; have hw143_0 := hx143_0; obtain rfl : ad137 = ad143 := (by injection e143)
               replace hx143_0 := hC HB hx143_0; replace hx143_1 := hC HB hx143_1; replace p143 := eq_true p143; replace q143 := eq_true q143; have p144 : 0 ≤ ((ji64) : Int) := dT aQ; have q144 : (ji64) < (l0.length : Int) := dT aQ; obtain ⟨ad144, e144, hx144_0, hx144_1⟩ := at_impl_Peg HR0.out (ji64) p144 q144; have hw144_1 := hx144_1; have hw144_0 := hx144_0; obtain rfl : ad137 = ad144 := (by injection e144)
               replace hx144_0 := hC HB hx144_0; replace hx144_1 := hC HB hx144_1; replace p144 := eq_true p144; replace q144 := eq_true q144
               refine start_ (n := 14) (S := fun w' => w'.cell? ⟨gb138, 0, none⟩ = some (.int .i64 ((rd_impl_Peg l0 x42_2).f0)) ∧ w'.cell? ⟨gb138, 1, none⟩ = some (.int .i64 ((rd_impl_Peg l0 x42_2).f1)) ∧ w'.cell? ⟨gb140, 0, none⟩ = some (.int .i64 ((rd_impl_Peg l0 (ji34)).f0)) ∧ w'.cell? ⟨gb140, 1, none⟩ = some (.int .i64 ((rd_impl_Peg l0 (ji34)).f1)) ∧ w'.cell? (ad137.add ((x11_3).toNat * 2)) = some (.int .i64 ((rd_impl_Peg l0 x11_3).f0)) ∧ w'.cell? ⟨(ad137.add ((x11_3).toNat * 2)).block, (ad137.add ((x11_3).toNat * 2)).off + 1, none⟩ = some (.int .i64 ((rd_impl_Peg l0 x11_3).f1)) ∧ w'.cell? (ad137.add (((ji64)).toNat * 2)) = some (.int .i64 ((rd_impl_Peg l0 (ji64)).f0)) ∧ w'.cell? ⟨(ad137.add (((ji64)).toNat * 2)).block, (ad137.add (((ji64)).toNat * 2)).off + 1, none⟩ = some (.int .i64 ((rd_impl_Peg l0 (ji64)).f1))) (ds := []) (bA 14 0) kR rfl kR ⟨vZ0 BK138, vZ1 BK138, vZ0 BK140, vZ1 BK140, (hC HB hw143_0 :), (hC HB hw143_1 :), (hC HB hw144_0 :), (hC HB hw144_1 :)⟩ (fun hHeld => ?_); refine with_tabW spec_pgGood.tab25 spec_pgGood.bits25 (fun HT_ HW_ => ?_)
               generalize wc.drew = w69 at BK138 BK140 HB hx143_0 hx143_1 hx144_0 hx144_1 hHeld ⊢
               refine pU 2 82 (bA 14 4) HT_ ?_; refine pU 3 83 (bA 14 12) HT_ ?_; refine pU 4 84 (bA 14 28) HT_ ?_; refine pU 6 86 (bA 14 92) HT_ ?_; refine pU 7 87 (bA 14 220) HT_ ?_; refine pU 8 88 (bA 14 476) HT_ ?_; refine pU 9 89 (bA 14 988) HT_ ?_; refine pU 10 90 (bA 14 2012) HT_ ?_; refine pU 11 91 (bA 14 4060) HT_ ?_
               refine tU 0 80 (bA 14 4061) HT_ HW_ hHeld ?_ (hy := Or.inl ⟨by rfl, by rintro w' ⟨s0, s1, s2, s3, s4, s5, s6, s7⟩; go_simp; with_reducible rfl⟩)
               refine tU 1 81 (bA 14 4063) HT_ HW_ hHeld ?_ (hy := Or.inl ⟨by rfl, by rintro w' ⟨s0, s1, s2, s3, s4, s5, s6, s7⟩; go_simp; with_reducible rfl⟩)
               refine tU 5 85 (bA 14 4095) HT_ HW_ hHeld ?_ (hy := Or.inl ⟨by rfl, by rintro w' ⟨s0, s1, s2, s3, s4, s5, s6, s7⟩; go_simp; with_reducible rfl⟩)
               refine tU 12 92 (bA 14 8191) HT_ HW_ hHeld ?_ (hy := Or.inl ⟨by rfl, by rintro w' ⟨s0, s1, s2, s3, s4, s5, s6, s7⟩; go_simp; with_reducible rfl⟩)
               refine oU 13 93 (bA 14 16383) HT_ (fun K hK => ?_)
               refine goes_ Try.func25 kR rfl #[.agg #[.int .i64 ((rd_impl_Peg l0 x42_2).f0), .int .i64 ((rd_impl_Peg l0 x42_2).f1)], .agg #[.int .i64 ((rd_impl_Peg l0 (ji34)).f0), .int .i64 ((rd_impl_Peg l0 (ji34)).f1)], .agg #[.int .i64 ((rd_impl_Peg l0 x11_3).f0), .int .i64 ((rd_impl_Peg l0 x11_3).f1)], .agg #[.int .i64 ((rd_impl_Peg l0 (ji64)).f0), .int .i64 ((rd_impl_Peg l0 (ji64)).f1)]] (by rfl) rfl rfl (by (try simp only [mA, mC, mN]); first | done | (simp only [hji34, hji64]; rfl) | rfl | (simp only [lD, lT]; rfl)) ?_
               with_reducible refine (spec_pgMeet.calls kj57 ((rd_impl_Peg l0 x42_2).f0) ((rd_impl_Peg l0 x42_2).f1) ((rd_impl_Peg l0 (ji34)).f0) ((rd_impl_Peg l0 (ji34)).f1) ((rd_impl_Peg l0 x11_3).f0) ((rd_impl_Peg l0 x11_3).f1) ((rd_impl_Peg l0 (ji64)).f0) ((rd_impl_Peg l0 (ji64)).f1) true _ A67.out).mono ?_
               rintro e w70 ⟨rfl, hb⟩; refine ⟨_, rfl, ?_⟩; replace BK138 := bB BK138 hb; replace BK140 := bB BK140 hb; replace HB := tB HB hb; (try clear hb); (try clear hb2); (try clear hk); (try clear hi)
               refine hK.out _ _ ⟨vZ0 BK138, vZ1 BK138, vZ0 BK140, vZ1 BK140, (hC HB hw143_0 :), (hC HB hw143_1 :), (hC HB hw144_0 :), (hC HB hw144_1 :)⟩ (fun hHeld => ?_)
               clear hK K
               refine nU ?_
               refine done_ (done_of HT_.out kR) ?_
               try go_wp2
               go_ret
               exact ⟨by first | rfl | (simp [errW_none, errW_some] <;> rfl) | (simp only [← hji34, ← hji37, ← hji64]; first | rfl | (simp [errW_none, errW_some] <;> rfl)) | (simp [*, errW_none, errW_some] <;> rfl), bE⟩
              ·replace c68 := Bool.eq_false_iff.mpr c68; subst c68; replace H := iF H; have H' := aM H; clear H
               try go_wp2
               replace BK138 := aM (kD BK138.out); replace BK140 := aM (kD BK140.out); replace HB := aM (pD HB.out); have p143 : 0 ≤ (x11_3 : Int) := dT aQ; have q143 : x11_3 < (l0.length : Int) := dT aQ; obtain ⟨ad143, e143, hx143_0, hx143_1⟩ := at_impl_Peg HR0.out x11_3 p143 q143; have hw143_1 := hx143_1; have hw143_0 := hx143_0; obtain rfl : ad137 = ad143 := (by injection e143)
               replace hx143_0 := hC HB hx143_0; replace hx143_1 := hC HB hx143_1; replace p143 := eq_true p143; replace q143 := eq_true q143; have p144 : 0 ≤ ((ji64) : Int) := dT aQ; have q144 : (ji64) < (l0.length : Int) := dT aQ; obtain ⟨ad144, e144, hx144_0, hx144_1⟩ := at_impl_Peg HR0.out (ji64) p144 q144; have hw144_1 := hx144_1; have hw144_0 := hx144_0; obtain rfl : ad137 = ad144 := (by injection e144)
               replace hx144_0 := hC HB hx144_0; replace hx144_1 := hC HB hx144_1; replace p144 := eq_true p144; replace q144 := eq_true q144
               refine start_ (n := 14) (S := fun w' => w'.cell? ⟨gb138, 0, none⟩ = some (.int .i64 ((rd_impl_Peg l0 x42_2).f0)) ∧ w'.cell? ⟨gb138, 1, none⟩ = some (.int .i64 ((rd_impl_Peg l0 x42_2).f1)) ∧ w'.cell? ⟨gb140, 0, none⟩ = some (.int .i64 ((rd_impl_Peg l0 (ji34)).f0)) ∧ w'.cell? ⟨gb140, 1, none⟩ = some (.int .i64 ((rd_impl_Peg l0 (ji34)).f1)) ∧ w'.cell? (ad137.add ((x11_3).toNat * 2)) = some (.int .i64 ((rd_impl_Peg l0 x11_3).f0)) ∧ w'.cell? ⟨(ad137.add ((x11_3).toNat * 2)).block, (ad137.add ((x11_3).toNat * 2)).off + 1, none⟩ = some (.int .i64 ((rd_impl_Peg l0 x11_3).f1)) ∧ w'.cell? (ad137.add (((ji64)).toNat * 2)) = some (.int .i64 ((rd_impl_Peg l0 (ji64)).f0)) ∧ w'.cell? ⟨(ad137.add (((ji64)).toNat * 2)).block, (ad137.add (((ji64)).toNat * 2)).off + 1, none⟩ = some (.int .i64 ((rd_impl_Peg l0 (ji64)).f1))) (ds := []) (bA 14 0) kR rfl kR ⟨vZ0 BK138, vZ1 BK138, vZ0 BK140, vZ1 BK140, (hC HB hw143_0 :), (hC HB hw143_1 :), (hC HB hw144_0 :), (hC HB hw144_1 :)⟩ (fun hHeld => ?_); refine with_tabW spec_pgGood.tab25 spec_pgGood.bits25 (fun HT_ HW_ => ?_)
               generalize wc.drew = w71 at BK138 BK140 HB hx143_0 hx143_1 hx144_0 hx144_1 hHeld ⊢
               refine pU 2 82 (bA 14 4) HT_ ?_; refine pU 3 83 (bA 14 12) HT_ ?_; refine pU 4 84 (bA 14 28) HT_ ?_; refine pU 6 86 (bA 14 92) HT_ ?_; refine pU 7 87 (bA 14 220) HT_ ?_; refine pU 8 88 (bA 14 476) HT_ ?_; refine pU 9 89 (bA 14 988) HT_ ?_; refine pU 10 90 (bA 14 2012) HT_ ?_; refine pU 11 91 (bA 14 4060) HT_ ?_
               refine tU 0 80 (bA 14 4061) HT_ HW_ hHeld ?_ (hy := Or.inl ⟨by rfl, by rintro w' ⟨s0, s1, s2, s3, s4, s5, s6, s7⟩; go_simp; with_reducible rfl⟩)
               refine tU 1 81 (bA 14 4063) HT_ HW_ hHeld ?_ (hy := Or.inl ⟨by rfl, by rintro w' ⟨s0, s1, s2, s3, s4, s5, s6, s7⟩; go_simp; with_reducible rfl⟩)
               refine tU 5 85 (bA 14 4095) HT_ HW_ hHeld ?_ (hy := Or.inl ⟨by rfl, by rintro w' ⟨s0, s1, s2, s3, s4, s5, s6, s7⟩; go_simp; with_reducible rfl⟩)
               refine tU 12 92 (bA 14 8191) HT_ HW_ hHeld ?_ (hy := Or.inl ⟨by rfl, by rintro w' ⟨s0, s1, s2, s3, s4, s5, s6, s7⟩; go_simp; with_reducible rfl⟩)
               refine oU 13 93 (bA 14 16383) HT_ (fun K hK => ?_)
               refine goes_ Try.func25 kR rfl #[.agg #[.int .i64 ((rd_impl_Peg l0 x42_2).f0), .int .i64 ((rd_impl_Peg l0 x42_2).f1)], .agg #[.int .i64 ((rd_impl_Peg l0 (ji34)).f0), .int .i64 ((rd_impl_Peg l0 (ji34)).f1)], .agg #[.int .i64 ((rd_impl_Peg l0 x11_3).f0), .int .i64 ((rd_impl_Peg l0 x11_3).f1)], .agg #[.int .i64 ((rd_impl_Peg l0 (ji64)).f0), .int .i64 ((rd_impl_Peg l0 (ji64)).f1)]] (by rfl) rfl rfl (by (try simp only [mA, mC, mN]); first | done | (simp only [hji34, hji64]; rfl) | rfl | (simp only [lD, lT]; rfl)) ?_
               with_reducible refine (spec_pgMeet.calls kj57 ((rd_impl_Peg l0 x42_2).f0) ((rd_impl_Peg l0 x42_2).f1) ((rd_impl_Peg l0 (ji34)).f0) ((rd_impl_Peg l0 (ji34)).f1) ((rd_impl_Peg l0 x11_3).f0) ((rd_impl_Peg l0 x11_3).f1) ((rd_impl_Peg l0 (ji64)).f0) ((rd_impl_Peg l0 (ji64)).f1) false _ A67.out).mono ?_
               rintro e w72 ⟨rfl, hb⟩; refine ⟨_, rfl, ?_⟩; replace BK138 := bB BK138 hb; replace BK140 := bB BK140 hb; replace HB := tB HB hb; (try clear hb); (try clear hb2); (try clear hk); (try clear hi)
               refine hK.out _ _ ⟨vZ0 BK138, vZ1 BK138, vZ0 BK140, vZ1 BK140, (hC HB hw143_0 :), (hC HB hw143_1 :), (hC HB hw144_0 :), (hC HB hw144_1 :)⟩ (fun hHeld => ?_)
               clear hK K
               refine nU ?_
               refine done_ (done_of HT_.out kR) ?_
               try go_wp2
               go_roundg kj57
               case measure => have := HK1.out; have := HK2.out; have := HK3.out; have := HJ57.out; omega
               case rel => exact ⟨(wrap64 (x11_3 + 1)), eQ, H', ⟨by have := HK1.out; have := HK2.out; have := HK3.out; have := HJ57.out; omega⟩, ⟨gQ BK138⟩, ⟨gQ BK140⟩, ⟨bE⟩⟩
             ·replace c60 := Bool.eq_false_iff.mpr c60; subst c60; replace H := iF H; have H' := aM H; clear H; go_wp2
              go_roundg kj57
              case measure => have := HK1.out; have := HK2.out; have := HK3.out; have := HJ57.out; omega
              case rel => exact ⟨(wrap64 (x42_2 + 1)), eQ, H', ⟨by have := HK1.out; have := HK2.out; have := HK3.out; have := HJ57.out; omega⟩, ⟨bE⟩⟩
       ·rw [if_neg c30] at H; have c30b0 := decide_eq_false c30; clear c30; obtain rfl := Option.some.inj H; go_wp2
        go_ret
        exact ⟨wQ, bQ⟩
 ·replace c3 := Bool.eq_false_iff.mpr c3; subst c3; replace H := iF H; obtain rfl := Option.some.inj H
  go_enter Try.func10, Try.ntmps10
  go_wp2_with (first | ((with_reducible refine gC (f := 22) rfl ?_); refine goesL_ (some 15) rfl rfl Try.func22 kR rfl #[.int .i64 (l0.length : Int), .int .i64 3, .int .i64 10] rfl sQ ?_; (with_reducible refine (spec_l1In.calls (l0.length : Int) 3 10 false _ A2.out).mono ?_); rintro e w' ⟨rfl, ⟨nd, rfl⟩⟩; refine ⟨_, rfl, ?_⟩))
  go_ret
  exact ⟨wQ, bQ⟩

end Go.Proofs.Ytphkphjddkjabaa.X
