-- thin
-- short
-- compact
import Derived.Test.YtfihohongkfibaaXA
import Derived.Test.YtfihohongkfibaaX0
import Derived.Test.YtfihohongkfibaaX8
import Derived.Test.YtfihohongkfibaaX11
import Derived.Test.YtfihohongkfibaaX20
namespace Go.Proofs.Ytfihohongkfibaa.X
open Go.RowKit Go.Proofs.Ytfihohongkfibaa.XW Go.Proofs.YtfihohongkfibaaW.PrintWords Go.Proofs.YtfihohongkfibaaW.PrintLast Go.Proofs.YtfihohongkfibaaW.PrintMore
attribute [local go_sem] max2_int min2_int max_two min_two max_three min_three max_four min_four   -- for this text's walks alone
set_option linter.unusedVariables false
set_option linter.unusedSimpArgs false

mutual
def impl_InCircle.j0 : Nat → List (S_impl_Peg) → Bool → Int → Int → Option (Int × Bool)
 | 0, _, _, _, _ => none
 | k + 1, x0, x18, x367000, x367001 => if x18 = true then (some (0, false)) else (impl_InCircle.l0 k x0 0 (x0.length : Int) 0 x367000 x367001)
def impl_InCircle.l0 : Nat → List (S_impl_Peg) → Int → Int → Int → Int → Int → Option (Int × Bool)
 | 0, _, _, _, _, _, _ => none
 | k + 1, x0, x6, x20, x21, x367000, x367001 => if x21 < x20 then (if 0 ≤ x21 then (if x21 < (x0.length : Int) then ((impl_Peg_less.f ((rd_impl_Peg x0 x21).f0) ((rd_impl_Peg x0 x21).f1) x367000 x367001).bind fun bt373 => ((impl_at.f x0 (wrap64 (x21 + 1))).bind fun bt375 => ((impl_Peg_less.f bt375.1 bt375.2 x367000 x367001).bind fun bt377 => ((impl_at.f x0 (wrap64 (x21 + 2))).bind fun bt379 => ((impl_Peg_less.f bt379.1 bt379.2 x367000 x367001).bind fun bt381 => ((impl_Peg_square.f bt373.1 bt373.2).bind fun t386 => ((impl_cross.f bt377.1 bt377.2 bt381.1 bt381.2).bind fun t387 => (impl_InCircle.l0 k x0 (wrap64 (x6 + (wrap64 (t386 * t387)))) x20 (wrap64 (x21 + 1)) x367000 x367001)))))))) else (none)) else (none)) else ((impl_sign.f x6).bind fun t369 => ((impl_twice.f k x0).bind fun t370 => ((impl_sign.f t370).bind fun t371 => (some (wrap64 (t369 * t371), true)))))
end
def impl_InCircle.f (k : Nat) (l0 : List (S_impl_Peg)) (a1_0 : Int) (a1_1 : Int) : Option (Int × Bool) := (impl_isThree.f k l0).bind fun t367 => (if t367 = true then ((impl_IsPeg.f a1_0 a1_1).bind fun t368 => (impl_InCircle.j0 k l0 (!t368) a1_0 a1_1)) else (impl_InCircle.j0 k l0 true a1_0 a1_1))
theorem impl_InCircle.mono_l : ∀ k, (∀ y0 y1 y2 y3, LeO (impl_InCircle.j0 k y0 y1 y2 y3) (impl_InCircle.j0 (k + 1) y0 y1 y2 y3)) ∧ (∀ y0 y1 y2 y3 y4 y5, LeO (impl_InCircle.l0 k y0 y1 y2 y3 y4 y5) (impl_InCircle.l0 (k + 1) y0 y1 y2 y3 y4 y5))
 | 0 => ⟨fun _ _ _ _ r h => by simp [impl_InCircle.j0] at h, fun _ _ _ _ _ _ r h => by simp [impl_InCircle.l0] at h⟩
 | k + 1 => by
  obtain ⟨ih0, ih1⟩ := impl_InCircle.mono_l k
  refine ⟨?_, ?_⟩ <;> intros <;> (first | unfold impl_InCircle.j0 | unfold impl_InCircle.l0) <;> repeat' first | (with_reducible exact ih0 _ _ _ _) | (with_reducible exact ih1 _ _ _ _ _ _) | (with_reducible exact impl_isThree.mono _ _) | (with_reducible exact impl_twice.mono _ _) | (with_reducible exact LeO.refl _) | (with_reducible exact LeO.none _) | (with_reducible refine LeO.ite ?_ ?_) | (with_reducible refine LeO.bind ?_ (fun _ => ?_)) | exact ih0 _ _ _ _ | exact ih1 _ _ _ _ _ _ | exact impl_isThree.mono _ _ | exact impl_twice.mono _ _ | exact LeO.none _ | refine LeO.ite ?_ ?_ | refine LeO.bind ?_ (fun _ => ?_)
theorem impl_InCircle.mono : ∀ a0 a1 a2 k, LeO (impl_InCircle.f k a0 a1 a2) (impl_InCircle.f (k + 1) a0 a1 a2) := by
 intro a0 a1 a2 k
 obtain ⟨ih0, ih1⟩ := impl_InCircle.mono_l k
 unfold impl_InCircle.f
 repeat' first | (with_reducible exact ih0 _ _ _ _) | (with_reducible exact ih1 _ _ _ _ _ _) | (with_reducible exact impl_isThree.mono _ _) | (with_reducible exact impl_twice.mono _ _) | (with_reducible exact LeO.refl _) | (with_reducible exact LeO.none _) | (with_reducible refine LeO.ite ?_ ?_) | (with_reducible refine LeO.bind ?_ (fun _ => ?_)) | exact ih0 _ _ _ _ | exact ih1 _ _ _ _ _ _ | exact impl_isThree.mono _ _ | exact impl_twice.mono _ _ | exact LeO.none _ | refine LeO.ite ?_ ?_ | refine LeO.bind ?_ (fun _ => ?_)
def impl_InCircle.T7 : Bool × List (List Nat × List Nat) := (true, [([], []), ([], []), ([0, 1], [0, 1]), ([2], [2]), ([], []), ([3, 4], [3, 4]), ([], []), ([], []), ([7], [7]), ([6, 8, 5], [6, 8]), ([], []), ([9, 10, 9], [9, 10]), ([], []), ([], []), ([13], [13]), ([12, 14, 11], [12, 14]), ([], []), ([15, 16, 15], [15, 16]), ([], []), ([], []), ([], []), ([18, 5, 17, 0, 1, 2, 3, 4, 5, 18, 19, 20], [5, 18]), ([19, 11, 21, 0, 1, 2, 3, 4, 5, 6, 7, 8, 9, 10, 11, 18, 19, 20, 21], [11, 19]), ([20, 17, 22, 0, 1, 2, 3, 4, 5, 6, 7, 8, 9, 10, 11, 12, 13, 14, 15, 16, 17, 18, 19, 20, 21, 22], [17, 20])])
def impl_InCircle.B7 : List Nat := [0, 0, 3, 7, 0, 31, 0, 0, 128, 511, 0, 2047, 0, 0, 8192, 32767, 0, 131071, 0, 0, 0, 2097151, 4194303, 8388607]
theorem impl_InCircle.tab7 : rtab .any (opsOf Try.f52 7) = impl_InCircle.T7 := by kernel_rfl
theorem impl_InCircle.bits7 : waitsOk impl_InCircle.T7.2 impl_InCircle.B7 = true := by kernel_rfl
def impl_InCircle.T8 : Bool × List (List Nat × List Nat) := (true, [([], []), ([], []), ([1], [1]), ([], []), ([], []), ([3, 4, 2], [3, 4]), ([2, 5], [2, 5]), ([0, 6], [0, 6]), ([7, 5, 0, 1, 2, 3, 4, 5, 6, 7], [0, 7])])
def impl_InCircle.B8 : List Nat := [0, 0, 2, 0, 0, 30, 62, 127, 255]
theorem impl_InCircle.tab8 : rtab .any (opsOf Try.f52 8) = impl_InCircle.T8 := by kernel_rfl
theorem impl_InCircle.bits8 : waitsOk impl_InCircle.T8.2 impl_InCircle.B8 = true := by kernel_rfl
set_option maxHeartbeats 8000000 in
set_option maxRecDepth 100000 in
theorem impl_InCircle.calls (k : Nat) (A0 : Option Addr) (c0 : Nat) (l0 : List (S_impl_Peg)) (a1_0 : Int) (a1_1 : Int) (r1 : Int) (r2 : Bool) (w : World) (hr0 : Kd.C kd_impl_Peg w A0 l0.length l0) (hc0 : l0.length ≤ c0) (h : impl_InCircle.f k l0 a1_0 a1_1 = some (r1, r2)) :
  Calls Try.prog 52 #[.slice A0 l0.length c0, .agg #[.int .i64 a1_0, .int .i64 a1_1]] w fun e w' => e = .returned (.tuple #[.int .i64 r1, .bool r2]) ∧ Below w.heap.size w w' := by
 have hu50 := Try.underlying50; have HR0 := aM hr0; have HC0 := aM hc0; clear hr0 hc0; have HB := aM (Below.refl w.heap.size w)
 unfold impl_InCircle.f at h; have H := h; clear h
 have HC3 := aM H; clear H
 go_enter Try.func52, Try.ntmps52
 go_upto_region 1 with (first | ((with_reducible refine gate_dst (N := 3) rfl ?_); refine bV 3 (cs := #[.int .i64 a1_0, .int .i64 a1_1]) (t := 50) rfl rfl (by first | (go_simp; done) | (go_simp; rfl)) ?_; intro gb366 hg w4 hbox hb; have BK366 := hbox; have GW366 := gZ HB hg; have GE366 := gZ HB hg; replace HB := tB HB hb; clear hb hbox hg))
 (try simp only [Act.put, sI, sZ, sS])
 go_cut [18] (fun v18 wc => ∃ (kq : Nat) (x18_2 : Bool), v18 = .bool x18_2 ∧ Aside0 (impl_InCircle.j0 kq l0 x18_2 a1_0 a1_1 = some (r1, r2)) ∧ Aside0 (kq ≤ k) ∧ Aside0 (wc.heap[gb366]? = some (.cells #[.int .i64 a1_0, .int .i64 a1_1] 50 (0, 0))) ∧ Aside0 (Below w.heap.size w wc))
 case first =>
  have H := HC3.out; clear HC3; replace H := bS H; obtain ⟨t367, A5, H⟩ := H
  by_cases c6 : t367 = true
  ·subst c6; replace H := iT H; replace H := bS H; obtain ⟨t368, A7, H⟩ := H; have H' := aM H; clear H
   go_wp2_with (first | ((with_reducible refine gC (f := 62) rfl ?_); refine goesL_ (some 12) rfl rfl Try.func62 kR rfl #[.slice A0 l0.length c0] rfl sQ ?_; (with_reducible refine (impl_isThree.calls k _ _ l0 true _ ?side1 ?side2 A5.out).mono ?_); (case side1 => repeat (first | exact (Kd.C_below HR0.out HB.out) | (with_reducible refine cA ?_ _) | (with_reducible refine cN ?_ _) | (with_reducible refine cD ?_))); (case side2 => exact HC0.out); rintro e w8 ⟨rfl, hb⟩; refine ⟨_, rfl, ?_⟩; replace BK366 := bB BK366 hb; replace HB := tB HB hb; (try clear hb); (try clear hb2); (try clear hk); (try clear hi); have hcz9_0 := vZ0 BK366; have hcz9_1 := vZ1 BK366; have hfz9_0 := kF BK366.out 0; have hfz9_1 := kF BK366.out 1) | (go_at_call 80; (with_reducible refine (impl_IsPeg.calls a1_0 a1_1 t368 _ A7.out).mono ?_); rintro e w10 ⟨rfl, hb⟩; replace BK366 := bB BK366 hb; replace HB := tB HB hb; (try clear hb); (try clear hb2); (try clear hk); (try clear hi)))
   go_meet
   case rel => exact ⟨_, (!t368), eQ, H', ⟨by first | omega | exact Nat.le_refl _⟩, ⟨gQ BK366⟩, ⟨bE⟩⟩
  ·replace c6 := Bool.eq_false_iff.mpr c6; subst c6; replace H := iF H; have H' := aM H; clear H
   go_wp2_with (first | ((with_reducible refine gC (f := 62) rfl ?_); refine goesL_ (some 12) rfl rfl Try.func62 kR rfl #[.slice A0 l0.length c0] rfl sQ ?_; (with_reducible refine (impl_isThree.calls k _ _ l0 false _ ?side1 ?side2 A5.out).mono ?_); (case side1 => repeat (first | exact (Kd.C_below HR0.out HB.out) | (with_reducible refine cA ?_ _) | (with_reducible refine cN ?_ _) | (with_reducible refine cD ?_))); (case side2 => exact HC0.out); rintro e w11 ⟨rfl, hb⟩; refine ⟨_, rfl, ?_⟩; replace BK366 := bB BK366 hb; replace HB := tB HB hb; (try clear hb); (try clear hb2); (try clear hk); (try clear hi)))
   go_meet
   case rel => exact ⟨_, (true), eQ, H', ⟨by first | omega | exact Nat.le_refl _⟩, ⟨gQ BK366⟩, ⟨bE⟩⟩
 case rest =>
  clear HC3; obtain ⟨kq, x18_2, rfl, HA, HJ2, BK366, HB⟩ := hcut
  cases kq with
  | zero => exact absurd HA.out (by simp [impl_InCircle.j0])
  | succ kj2 =>
   have H := HA.out; clear HA
   simp only [impl_InCircle.j0] at H
   by_cases c12 : x18_2 = true
   ·subst c12; replace H := iT H
    simp only [Option.some.injEq, Prod.mk.injEq] at H
    obtain ⟨rfl, rfl⟩ := H; go_wp2
    go_ret2
    exact ⟨wQ, bE⟩
   ·replace c12 := Bool.eq_false_iff.mpr c12; subst c12; replace H := iF H; have H' := aM H; clear H; go_wp2
    go_loopg [6, 21] kj2 (fun kq v6 v21 w' => ∃ (x6_2 : Int) (x21_2 : Int), v6 = .int .i64 x6_2 ∧ v21 = .int .i64 x21_2 ∧ Aside0 (impl_InCircle.l0 kq l0 x6_2 (l0.length : Int) x21_2 a1_0 a1_1 = some (r1, r2)) ∧ Aside0 (kq ≤ kj2) ∧ Aside0 (w'.heap[gb366]? = some (.cells #[.int .i64 a1_0, .int .i64 a1_1] 50 (0, 0))) ∧ Aside0 (Below w.heap.size w w'))
    case atStart => exact ⟨(0), (0), eQ, eQ, H', ⟨Nat.le_refl _⟩, ⟨gQ BK366⟩, ⟨bE⟩⟩
    case round =>
     clear H'; (try clear c12); obtain ⟨x6_2, x21_2, rfl, rfl, HA, HK2, BK366, HB⟩ := hrel
     cases gk with
     | zero => exact absurd HA.out (by simp [impl_InCircle.l0])
     | succ k2 =>
      have H := HA.out; clear HA
      simp only [impl_InCircle.l0] at H
      by_cases c13 : x21_2 < (l0.length : Int)
      ·rw [if_pos c13] at H; have c13b0 := dE c13; clear c13; replace H := iD H; obtain ⟨c14b0, H⟩ := H; replace H := iD H; obtain ⟨c15b0, H⟩ := H; replace H := bS H; obtain ⟨⟨t373, t374⟩, A16, H⟩ := H; replace H := bS H; obtain ⟨⟨t375, t376⟩, A17, H⟩ := H; replace H := bS H; obtain ⟨⟨t377, t378⟩, A18, H⟩ := H; replace H := bS H; obtain ⟨⟨t379, t380⟩, A19, H⟩ := H; replace H := bS H; obtain ⟨⟨t381, t382⟩, A20, H⟩ := H; replace H := bS H; obtain ⟨t386, A21, H⟩ := H; replace H := bS H; obtain ⟨t387, A22, H⟩ := H; have H' := aM H; clear H
       try go_wp2
       replace BK366 := aM (kD BK366.out); replace HB := aM (pD HB.out); have p372 : 0 ≤ (x21_2 : Int) := dT aQ; have q372 : x21_2 < (l0.length : Int) := dT aQ; obtain ⟨ad372, e372, hx372_0, hx372_1⟩ := at_impl_Peg HR0.out x21_2 p372 q372; have hw372_1 := hx372_1; have hw372_0 := hx372_0
       cases e372
       replace hx372_0 := hC HB hx372_0; replace hx372_1 := hC HB hx372_1; replace p372 := eq_true p372; replace q372 := eq_true q372
       refine start_ (n := 24) (S := fun w' => w'.cell? ⟨gb366, 0, none⟩ = some (.int .i64 a1_0) ∧ w'.cell? ⟨gb366, 1, none⟩ = some (.int .i64 a1_1) ∧ w'.cell? (ad372.add ((x21_2).toNat * 2)) = some (.int .i64 ((rd_impl_Peg l0 x21_2).f0)) ∧ w'.cell? ⟨(ad372.add ((x21_2).toNat * 2)).block, (ad372.add ((x21_2).toNat * 2)).off + 1, none⟩ = some (.int .i64 ((rd_impl_Peg l0 x21_2).f1))) (ds := []) (bA 24 0) kR rfl kR ⟨vZ0 BK366, vZ1 BK366, (hC HB hw372_0 :), (hC HB hw372_1 :)⟩ (fun hHeld => ?_); refine with_tabW impl_InCircle.tab7 impl_InCircle.bits7 (fun HT_ HW_ => ?_)
       generalize wr.drew = w23 at BK366 HB hx372_0 hx372_1 hHeld ⊢
       refine pU 0 24 (bA 24 1) HT_ ?_; refine pU 1 25 (bA 24 3) HT_ ?_; refine pU 2 26 (bA 24 7) HT_ ?_; refine pU 6 30 (bA 24 71) HT_ ?_; refine pU 7 31 (bA 24 199) HT_ ?_; refine pU 8 32 (bA 24 455) HT_ ?_; refine pU 12 36 (bA 24 4551) HT_ ?_; refine pU 13 37 (bA 24 12743) HT_ ?_; refine pU 14 38 (bA 24 29127) HT_ ?_
       refine tU 3 27 (bA 24 29135) HT_ HW_ hHeld ?_ (hy := Or.inl ⟨by rfl, by rintro w' ⟨s0, s1, s2, s3⟩; go_simp; with_reducible rfl⟩)
       refine tU 4 28 (bA 24 29151) HT_ HW_ hHeld ?_ (hy := Or.inl ⟨by rfl, by rintro w' ⟨s0, s1, s2, s3⟩; go_simp; with_reducible rfl⟩)
       refine tU 10 34 (bA 24 30175) HT_ HW_ hHeld ?_ (hy := Or.inl ⟨by rfl, by rintro w' ⟨s0, s1, s2, s3⟩; go_simp; with_reducible rfl⟩)
       refine tU 16 40 (bA 24 95711) HT_ HW_ hHeld ?_ (hy := Or.inl ⟨by rfl, by rintro w' ⟨s0, s1, s2, s3⟩; go_simp; with_reducible rfl⟩)
       refine join_ (σ := Nat × Nat × Nat) 3 (bA 24 2097151) (fun s_ => [(29, .agg #[.int .i64 t373, .int .i64 t374]), (33, .agg #[.int .i64 t375, .int .i64 t376]), (35, .agg #[.int .i64 t377, .int .i64 t378]), (39, .agg #[.int .i64 t379, .int .i64 t380]), (41, .agg #[.int .i64 t381, .int .i64 t382]), (8, .pointer (some ⟨s_.1, 0, none⟩)), (9, .pointer (some ⟨s_.2.1, 0, none⟩)), (10, .pointer (some ⟨s_.2.2, 0, none⟩))]) (fun s_ w' => (w'.cell? ⟨gb366, 0, none⟩ = some (.int .i64 a1_0) ∧ w'.cell? ⟨gb366, 1, none⟩ = some (.int .i64 a1_1) ∧ w'.cell? (ad372.add ((x21_2).toNat * 2)) = some (.int .i64 ((rd_impl_Peg l0 x21_2).f0)) ∧ w'.cell? ⟨(ad372.add ((x21_2).toNat * 2)).block, (ad372.add ((x21_2).toNat * 2)).off + 1, none⟩ = some (.int .i64 ((rd_impl_Peg l0 x21_2).f1))) ∧ (w'.heap[gb366]? = some (.cells #[.int .i64 a1_0, .int .i64 a1_1] 50 (0, 0))) ∧ (w'.heap[s_.1]? = some (.cells #[.int .i64 0, .int .i64 0] 50 (0, 0))) ∧ (w'.heap[s_.2.1]? = some (.cells #[.int .i64 0, .int .i64 0] 50 (0, 0))) ∧ (w'.heap[s_.2.2]? = some (.cells #[.int .i64 0, .int .i64 0] 50 (0, 0))) ∧ (w.heap.size ≤ s_.1) ∧ (w.heap.size ≤ s_.1) ∧ (gb366 ≠ s_.1) ∧ (s_.1 ≠ gb366) ∧ (s_.2.1 ≠ s_.1) ∧ (s_.1 ≠ s_.2.1) ∧ (s_.2.2 ≠ s_.1) ∧ (s_.1 ≠ s_.2.2) ∧ (w.heap.size ≤ s_.2.1) ∧ (w.heap.size ≤ s_.2.1) ∧ (gb366 ≠ s_.2.1) ∧ (s_.2.1 ≠ gb366) ∧ (s_.2.2 ≠ s_.2.1) ∧ (s_.2.1 ≠ s_.2.2) ∧ (w.heap.size ≤ s_.2.2) ∧ (w.heap.size ≤ s_.2.2) ∧ (gb366 ≠ s_.2.2) ∧ (s_.2.2 ≠ gb366) ∧ (Below w.heap.size w w')) ?_ ?_
       rotate_left
       ·intro hJ5_9_11_15_17_18_19_20
        refine join_ (σ := Nat × Nat) 4 (bA 24 1048575) (fun s_ => [(29, .agg #[.int .i64 t373, .int .i64 t374]), (33, .agg #[.int .i64 t375, .int .i64 t376]), (35, .agg #[.int .i64 t377, .int .i64 t378]), (39, .agg #[.int .i64 t379, .int .i64 t380]), (41, .agg #[.int .i64 t381, .int .i64 t382]), (8, .pointer (some ⟨s_.1, 0, none⟩)), (9, .pointer (some ⟨s_.2, 0, none⟩))]) (fun s_ w' => (w'.cell? ⟨gb366, 0, none⟩ = some (.int .i64 a1_0) ∧ w'.cell? ⟨gb366, 1, none⟩ = some (.int .i64 a1_1) ∧ w'.cell? (ad372.add ((x21_2).toNat * 2)) = some (.int .i64 ((rd_impl_Peg l0 x21_2).f0)) ∧ w'.cell? ⟨(ad372.add ((x21_2).toNat * 2)).block, (ad372.add ((x21_2).toNat * 2)).off + 1, none⟩ = some (.int .i64 ((rd_impl_Peg l0 x21_2).f1))) ∧ (w'.heap[gb366]? = some (.cells #[.int .i64 a1_0, .int .i64 a1_1] 50 (0, 0))) ∧ (w'.heap[s_.1]? = some (.cells #[.int .i64 0, .int .i64 0] 50 (0, 0))) ∧ (w'.heap[s_.2]? = some (.cells #[.int .i64 0, .int .i64 0] 50 (0, 0))) ∧ (w.heap.size ≤ s_.1) ∧ (w.heap.size ≤ s_.1) ∧ (gb366 ≠ s_.1) ∧ (s_.1 ≠ gb366) ∧ (s_.2 ≠ s_.1) ∧ (s_.1 ≠ s_.2) ∧ (w.heap.size ≤ s_.2) ∧ (w.heap.size ≤ s_.2) ∧ (gb366 ≠ s_.2) ∧ (s_.2 ≠ gb366) ∧ (Below w.heap.size w w')) ?_ ?_
        rotate_left
        ·intro hJ5_9_11_15_17_18_19
         refine join_ (σ := Nat × Nat) 4 (bA 24 1572863) (fun s_ => [(29, .agg #[.int .i64 t373, .int .i64 t374]), (33, .agg #[.int .i64 t375, .int .i64 t376]), (35, .agg #[.int .i64 t377, .int .i64 t378]), (39, .agg #[.int .i64 t379, .int .i64 t380]), (41, .agg #[.int .i64 t381, .int .i64 t382]), (8, .pointer (some ⟨s_.1, 0, none⟩)), (10, .pointer (some ⟨s_.2, 0, none⟩))]) (fun s_ w' => (w'.cell? ⟨gb366, 0, none⟩ = some (.int .i64 a1_0) ∧ w'.cell? ⟨gb366, 1, none⟩ = some (.int .i64 a1_1) ∧ w'.cell? (ad372.add ((x21_2).toNat * 2)) = some (.int .i64 ((rd_impl_Peg l0 x21_2).f0)) ∧ w'.cell? ⟨(ad372.add ((x21_2).toNat * 2)).block, (ad372.add ((x21_2).toNat * 2)).off + 1, none⟩ = some (.int .i64 ((rd_impl_Peg l0 x21_2).f1))) ∧ (w'.heap[gb366]? = some (.cells #[.int .i64 a1_0, .int .i64 a1_1] 50 (0, 0))) ∧ (w'.heap[s_.1]? = some (.cells #[.int .i64 0, .int .i64 0] 50 (0, 0))) ∧ (w'.heap[s_.2]? = some (.cells #[.int .i64 0, .int .i64 0] 50 (0, 0))) ∧ (w.heap.size ≤ s_.1) ∧ (w.heap.size ≤ s_.1) ∧ (gb366 ≠ s_.1) ∧ (s_.1 ≠ gb366) ∧ (s_.2 ≠ s_.1) ∧ (s_.1 ≠ s_.2) ∧ (w.heap.size ≤ s_.2) ∧ (w.heap.size ≤ s_.2) ∧ (gb366 ≠ s_.2) ∧ (s_.2 ≠ gb366) ∧ (Below w.heap.size w w')) ?_ ?_
         rotate_left
         ·intro hJ5_9_11_15_17_18_20
          refine join_ (σ := Nat × Nat) 4 (bA 24 1835007) (fun s_ => [(29, .agg #[.int .i64 t373, .int .i64 t374]), (33, .agg #[.int .i64 t375, .int .i64 t376]), (35, .agg #[.int .i64 t377, .int .i64 t378]), (39, .agg #[.int .i64 t379, .int .i64 t380]), (41, .agg #[.int .i64 t381, .int .i64 t382]), (9, .pointer (some ⟨s_.1, 0, none⟩)), (10, .pointer (some ⟨s_.2, 0, none⟩))]) (fun s_ w' => (w'.cell? ⟨gb366, 0, none⟩ = some (.int .i64 a1_0) ∧ w'.cell? ⟨gb366, 1, none⟩ = some (.int .i64 a1_1) ∧ w'.cell? (ad372.add ((x21_2).toNat * 2)) = some (.int .i64 ((rd_impl_Peg l0 x21_2).f0)) ∧ w'.cell? ⟨(ad372.add ((x21_2).toNat * 2)).block, (ad372.add ((x21_2).toNat * 2)).off + 1, none⟩ = some (.int .i64 ((rd_impl_Peg l0 x21_2).f1))) ∧ (w'.heap[gb366]? = some (.cells #[.int .i64 a1_0, .int .i64 a1_1] 50 (0, 0))) ∧ (w'.heap[s_.1]? = some (.cells #[.int .i64 0, .int .i64 0] 50 (0, 0))) ∧ (w'.heap[s_.2]? = some (.cells #[.int .i64 0, .int .i64 0] 50 (0, 0))) ∧ (w.heap.size ≤ s_.1) ∧ (w.heap.size ≤ s_.1) ∧ (gb366 ≠ s_.1) ∧ (s_.1 ≠ gb366) ∧ (s_.2 ≠ s_.1) ∧ (s_.1 ≠ s_.2) ∧ (w.heap.size ≤ s_.2) ∧ (w.heap.size ≤ s_.2) ∧ (gb366 ≠ s_.2) ∧ (s_.2 ≠ gb366) ∧ (Below w.heap.size w w')) ?_ ?_
          rotate_left
          ·intro hJ5_9_11_15_17_19_20
           refine join_ (σ := Nat × Nat × Nat) 4 (bA 24 1966079) (fun s_ => [(29, .agg #[.int .i64 t373, .int .i64 t374]), (33, .agg #[.int .i64 t375, .int .i64 t376]), (35, .agg #[.int .i64 t377, .int .i64 t378]), (39, .agg #[.int .i64 t379, .int .i64 t380]), (8, .pointer (some ⟨s_.1, 0, none⟩)), (9, .pointer (some ⟨s_.2.1, 0, none⟩)), (10, .pointer (some ⟨s_.2.2, 0, none⟩))]) (fun s_ w' => (w'.cell? ⟨gb366, 0, none⟩ = some (.int .i64 a1_0) ∧ w'.cell? ⟨gb366, 1, none⟩ = some (.int .i64 a1_1) ∧ w'.cell? (ad372.add ((x21_2).toNat * 2)) = some (.int .i64 ((rd_impl_Peg l0 x21_2).f0)) ∧ w'.cell? ⟨(ad372.add ((x21_2).toNat * 2)).block, (ad372.add ((x21_2).toNat * 2)).off + 1, none⟩ = some (.int .i64 ((rd_impl_Peg l0 x21_2).f1))) ∧ (w'.heap[gb366]? = some (.cells #[.int .i64 a1_0, .int .i64 a1_1] 50 (0, 0))) ∧ (w'.heap[s_.1]? = some (.cells #[.int .i64 0, .int .i64 0] 50 (0, 0))) ∧ (w'.heap[s_.2.1]? = some (.cells #[.int .i64 0, .int .i64 0] 50 (0, 0))) ∧ (w'.heap[s_.2.2]? = some (.cells #[.int .i64 0, .int .i64 0] 50 (0, 0))) ∧ (w.heap.size ≤ s_.1) ∧ (w.heap.size ≤ s_.1) ∧ (gb366 ≠ s_.1) ∧ (s_.1 ≠ gb366) ∧ (s_.2.1 ≠ s_.1) ∧ (s_.1 ≠ s_.2.1) ∧ (s_.2.2 ≠ s_.1) ∧ (s_.1 ≠ s_.2.2) ∧ (w.heap.size ≤ s_.2.1) ∧ (w.heap.size ≤ s_.2.1) ∧ (gb366 ≠ s_.2.1) ∧ (s_.2.1 ≠ gb366) ∧ (s_.2.2 ≠ s_.2.1) ∧ (s_.2.1 ≠ s_.2.2) ∧ (w.heap.size ≤ s_.2.2) ∧ (w.heap.size ≤ s_.2.2) ∧ (gb366 ≠ s_.2.2) ∧ (s_.2.2 ≠ gb366) ∧ (Below w.heap.size w w')) ?_ ?_
           rotate_left
           ·intro hJ5_9_11_15_18_19_20
            refine join_ (σ := Nat) 5 (bA 24 524287) (fun s_ => [(29, .agg #[.int .i64 t373, .int .i64 t374]), (33, .agg #[.int .i64 t375, .int .i64 t376]), (35, .agg #[.int .i64 t377, .int .i64 t378]), (39, .agg #[.int .i64 t379, .int .i64 t380]), (41, .agg #[.int .i64 t381, .int .i64 t382]), (8, .pointer (some ⟨s_, 0, none⟩))]) (fun s_ w' => (w'.cell? ⟨gb366, 0, none⟩ = some (.int .i64 a1_0) ∧ w'.cell? ⟨gb366, 1, none⟩ = some (.int .i64 a1_1) ∧ w'.cell? (ad372.add ((x21_2).toNat * 2)) = some (.int .i64 ((rd_impl_Peg l0 x21_2).f0)) ∧ w'.cell? ⟨(ad372.add ((x21_2).toNat * 2)).block, (ad372.add ((x21_2).toNat * 2)).off + 1, none⟩ = some (.int .i64 ((rd_impl_Peg l0 x21_2).f1))) ∧ (w'.heap[gb366]? = some (.cells #[.int .i64 a1_0, .int .i64 a1_1] 50 (0, 0))) ∧ (w'.heap[s_]? = some (.cells #[.int .i64 0, .int .i64 0] 50 (0, 0))) ∧ (w.heap.size ≤ s_) ∧ (w.heap.size ≤ s_) ∧ (gb366 ≠ s_) ∧ (s_ ≠ gb366) ∧ (Below w.heap.size w w')) ?_ ?_
            rotate_left
            ·intro hJ5_9_11_15_17_18
             refine join_ (σ := Nat) 5 (bA 24 786431) (fun s_ => [(29, .agg #[.int .i64 t373, .int .i64 t374]), (33, .agg #[.int .i64 t375, .int .i64 t376]), (35, .agg #[.int .i64 t377, .int .i64 t378]), (39, .agg #[.int .i64 t379, .int .i64 t380]), (41, .agg #[.int .i64 t381, .int .i64 t382]), (9, .pointer (some ⟨s_, 0, none⟩))]) (fun s_ w' => (w'.cell? ⟨gb366, 0, none⟩ = some (.int .i64 a1_0) ∧ w'.cell? ⟨gb366, 1, none⟩ = some (.int .i64 a1_1) ∧ w'.cell? (ad372.add ((x21_2).toNat * 2)) = some (.int .i64 ((rd_impl_Peg l0 x21_2).f0)) ∧ w'.cell? ⟨(ad372.add ((x21_2).toNat * 2)).block, (ad372.add ((x21_2).toNat * 2)).off + 1, none⟩ = some (.int .i64 ((rd_impl_Peg l0 x21_2).f1))) ∧ (w'.heap[gb366]? = some (.cells #[.int .i64 a1_0, .int .i64 a1_1] 50 (0, 0))) ∧ (w'.heap[s_]? = some (.cells #[.int .i64 0, .int .i64 0] 50 (0, 0))) ∧ (w.heap.size ≤ s_) ∧ (w.heap.size ≤ s_) ∧ (gb366 ≠ s_) ∧ (s_ ≠ gb366) ∧ (Below w.heap.size w w')) ?_ ?_
             rotate_left
             ·intro hJ5_9_11_15_17_19
              refine join_ (σ := Nat) 5 (bA 24 1310719) (fun s_ => [(29, .agg #[.int .i64 t373, .int .i64 t374]), (33, .agg #[.int .i64 t375, .int .i64 t376]), (35, .agg #[.int .i64 t377, .int .i64 t378]), (39, .agg #[.int .i64 t379, .int .i64 t380]), (41, .agg #[.int .i64 t381, .int .i64 t382]), (10, .pointer (some ⟨s_, 0, none⟩))]) (fun s_ w' => (w'.cell? ⟨gb366, 0, none⟩ = some (.int .i64 a1_0) ∧ w'.cell? ⟨gb366, 1, none⟩ = some (.int .i64 a1_1) ∧ w'.cell? (ad372.add ((x21_2).toNat * 2)) = some (.int .i64 ((rd_impl_Peg l0 x21_2).f0)) ∧ w'.cell? ⟨(ad372.add ((x21_2).toNat * 2)).block, (ad372.add ((x21_2).toNat * 2)).off + 1, none⟩ = some (.int .i64 ((rd_impl_Peg l0 x21_2).f1))) ∧ (w'.heap[gb366]? = some (.cells #[.int .i64 a1_0, .int .i64 a1_1] 50 (0, 0))) ∧ (w'.heap[s_]? = some (.cells #[.int .i64 0, .int .i64 0] 50 (0, 0))) ∧ (w.heap.size ≤ s_) ∧ (w.heap.size ≤ s_) ∧ (gb366 ≠ s_) ∧ (s_ ≠ gb366) ∧ (Below w.heap.size w w')) ?_ ?_
              rotate_left
              ·intro hJ5_9_11_15_17_20
               refine join_ (σ := Nat × Nat) 5 (bA 24 917503) (fun s_ => [(29, .agg #[.int .i64 t373, .int .i64 t374]), (33, .agg #[.int .i64 t375, .int .i64 t376]), (35, .agg #[.int .i64 t377, .int .i64 t378]), (39, .agg #[.int .i64 t379, .int .i64 t380]), (8, .pointer (some ⟨s_.1, 0, none⟩)), (9, .pointer (some ⟨s_.2, 0, none⟩))]) (fun s_ w' => (w'.cell? ⟨gb366, 0, none⟩ = some (.int .i64 a1_0) ∧ w'.cell? ⟨gb366, 1, none⟩ = some (.int .i64 a1_1) ∧ w'.cell? (ad372.add ((x21_2).toNat * 2)) = some (.int .i64 ((rd_impl_Peg l0 x21_2).f0)) ∧ w'.cell? ⟨(ad372.add ((x21_2).toNat * 2)).block, (ad372.add ((x21_2).toNat * 2)).off + 1, none⟩ = some (.int .i64 ((rd_impl_Peg l0 x21_2).f1))) ∧ (w'.heap[gb366]? = some (.cells #[.int .i64 a1_0, .int .i64 a1_1] 50 (0, 0))) ∧ (w'.heap[s_.1]? = some (.cells #[.int .i64 0, .int .i64 0] 50 (0, 0))) ∧ (w'.heap[s_.2]? = some (.cells #[.int .i64 0, .int .i64 0] 50 (0, 0))) ∧ (w.heap.size ≤ s_.1) ∧ (w.heap.size ≤ s_.1) ∧ (gb366 ≠ s_.1) ∧ (s_.1 ≠ gb366) ∧ (s_.2 ≠ s_.1) ∧ (s_.1 ≠ s_.2) ∧ (w.heap.size ≤ s_.2) ∧ (w.heap.size ≤ s_.2) ∧ (gb366 ≠ s_.2) ∧ (s_.2 ≠ gb366) ∧ (Below w.heap.size w w')) ?_ ?_
               rotate_left
               ·intro hJ5_9_11_15_18_19
                refine join_ (σ := Nat × Nat) 5 (bA 24 1441791) (fun s_ => [(29, .agg #[.int .i64 t373, .int .i64 t374]), (33, .agg #[.int .i64 t375, .int .i64 t376]), (35, .agg #[.int .i64 t377, .int .i64 t378]), (39, .agg #[.int .i64 t379, .int .i64 t380]), (8, .pointer (some ⟨s_.1, 0, none⟩)), (10, .pointer (some ⟨s_.2, 0, none⟩))]) (fun s_ w' => (w'.cell? ⟨gb366, 0, none⟩ = some (.int .i64 a1_0) ∧ w'.cell? ⟨gb366, 1, none⟩ = some (.int .i64 a1_1) ∧ w'.cell? (ad372.add ((x21_2).toNat * 2)) = some (.int .i64 ((rd_impl_Peg l0 x21_2).f0)) ∧ w'.cell? ⟨(ad372.add ((x21_2).toNat * 2)).block, (ad372.add ((x21_2).toNat * 2)).off + 1, none⟩ = some (.int .i64 ((rd_impl_Peg l0 x21_2).f1))) ∧ (w'.heap[gb366]? = some (.cells #[.int .i64 a1_0, .int .i64 a1_1] 50 (0, 0))) ∧ (w'.heap[s_.1]? = some (.cells #[.int .i64 0, .int .i64 0] 50 (0, 0))) ∧ (w'.heap[s_.2]? = some (.cells #[.int .i64 0, .int .i64 0] 50 (0, 0))) ∧ (w.heap.size ≤ s_.1) ∧ (w.heap.size ≤ s_.1) ∧ (gb366 ≠ s_.1) ∧ (s_.1 ≠ gb366) ∧ (s_.2 ≠ s_.1) ∧ (s_.1 ≠ s_.2) ∧ (w.heap.size ≤ s_.2) ∧ (w.heap.size ≤ s_.2) ∧ (gb366 ≠ s_.2) ∧ (s_.2 ≠ gb366) ∧ (Below w.heap.size w w')) ?_ ?_
                rotate_left
                ·intro hJ5_9_11_15_18_20
                 refine join_ (σ := Nat × Nat) 5 (bA 24 1703935) (fun s_ => [(29, .agg #[.int .i64 t373, .int .i64 t374]), (33, .agg #[.int .i64 t375, .int .i64 t376]), (35, .agg #[.int .i64 t377, .int .i64 t378]), (39, .agg #[.int .i64 t379, .int .i64 t380]), (9, .pointer (some ⟨s_.1, 0, none⟩)), (10, .pointer (some ⟨s_.2, 0, none⟩))]) (fun s_ w' => (w'.cell? ⟨gb366, 0, none⟩ = some (.int .i64 a1_0) ∧ w'.cell? ⟨gb366, 1, none⟩ = some (.int .i64 a1_1) ∧ w'.cell? (ad372.add ((x21_2).toNat * 2)) = some (.int .i64 ((rd_impl_Peg l0 x21_2).f0)) ∧ w'.cell? ⟨(ad372.add ((x21_2).toNat * 2)).block, (ad372.add ((x21_2).toNat * 2)).off + 1, none⟩ = some (.int .i64 ((rd_impl_Peg l0 x21_2).f1))) ∧ (w'.heap[gb366]? = some (.cells #[.int .i64 a1_0, .int .i64 a1_1] 50 (0, 0))) ∧ (w'.heap[s_.1]? = some (.cells #[.int .i64 0, .int .i64 0] 50 (0, 0))) ∧ (w'.heap[s_.2]? = some (.cells #[.int .i64 0, .int .i64 0] 50 (0, 0))) ∧ (w.heap.size ≤ s_.1) ∧ (w.heap.size ≤ s_.1) ∧ (gb366 ≠ s_.1) ∧ (s_.1 ≠ gb366) ∧ (s_.2 ≠ s_.1) ∧ (s_.1 ≠ s_.2) ∧ (w.heap.size ≤ s_.2) ∧ (w.heap.size ≤ s_.2) ∧ (gb366 ≠ s_.2) ∧ (s_.2 ≠ gb366) ∧ (Below w.heap.size w w')) ?_ ?_
                 rotate_left
                 ·intro hJ5_9_11_15_19_20
                  refine join_ (σ := Nat × Nat × Nat) 5 (bA 24 1933311) (fun s_ => [(29, .agg #[.int .i64 t373, .int .i64 t374]), (33, .agg #[.int .i64 t375, .int .i64 t376]), (35, .agg #[.int .i64 t377, .int .i64 t378]), (8, .pointer (some ⟨s_.1, 0, none⟩)), (9, .pointer (some ⟨s_.2.1, 0, none⟩)), (10, .pointer (some ⟨s_.2.2, 0, none⟩))]) (fun s_ w' => (w'.cell? ⟨gb366, 0, none⟩ = some (.int .i64 a1_0) ∧ w'.cell? ⟨gb366, 1, none⟩ = some (.int .i64 a1_1) ∧ w'.cell? (ad372.add ((x21_2).toNat * 2)) = some (.int .i64 ((rd_impl_Peg l0 x21_2).f0)) ∧ w'.cell? ⟨(ad372.add ((x21_2).toNat * 2)).block, (ad372.add ((x21_2).toNat * 2)).off + 1, none⟩ = some (.int .i64 ((rd_impl_Peg l0 x21_2).f1))) ∧ (w'.heap[gb366]? = some (.cells #[.int .i64 a1_0, .int .i64 a1_1] 50 (0, 0))) ∧ (w'.heap[s_.1]? = some (.cells #[.int .i64 0, .int .i64 0] 50 (0, 0))) ∧ (w'.heap[s_.2.1]? = some (.cells #[.int .i64 0, .int .i64 0] 50 (0, 0))) ∧ (w'.heap[s_.2.2]? = some (.cells #[.int .i64 0, .int .i64 0] 50 (0, 0))) ∧ (w.heap.size ≤ s_.1) ∧ (w.heap.size ≤ s_.1) ∧ (gb366 ≠ s_.1) ∧ (s_.1 ≠ gb366) ∧ (s_.2.1 ≠ s_.1) ∧ (s_.1 ≠ s_.2.1) ∧ (s_.2.2 ≠ s_.1) ∧ (s_.1 ≠ s_.2.2) ∧ (w.heap.size ≤ s_.2.1) ∧ (w.heap.size ≤ s_.2.1) ∧ (gb366 ≠ s_.2.1) ∧ (s_.2.1 ≠ gb366) ∧ (s_.2.2 ≠ s_.2.1) ∧ (s_.2.1 ≠ s_.2.2) ∧ (w.heap.size ≤ s_.2.2) ∧ (w.heap.size ≤ s_.2.2) ∧ (gb366 ≠ s_.2.2) ∧ (s_.2.2 ≠ gb366) ∧ (Below w.heap.size w w')) ?_ ?_
                  rotate_left
                  ·intro hJ5_9_11_18_19_20
                   refine join_ (σ := Unit) 6 (bA 24 262143) (fun s_ => [(29, .agg #[.int .i64 t373, .int .i64 t374]), (33, .agg #[.int .i64 t375, .int .i64 t376]), (35, .agg #[.int .i64 t377, .int .i64 t378]), (39, .agg #[.int .i64 t379, .int .i64 t380]), (41, .agg #[.int .i64 t381, .int .i64 t382])]) (fun s_ w' => (w'.cell? ⟨gb366, 0, none⟩ = some (.int .i64 a1_0) ∧ w'.cell? ⟨gb366, 1, none⟩ = some (.int .i64 a1_1) ∧ w'.cell? (ad372.add ((x21_2).toNat * 2)) = some (.int .i64 ((rd_impl_Peg l0 x21_2).f0)) ∧ w'.cell? ⟨(ad372.add ((x21_2).toNat * 2)).block, (ad372.add ((x21_2).toNat * 2)).off + 1, none⟩ = some (.int .i64 ((rd_impl_Peg l0 x21_2).f1))) ∧ (w'.heap[gb366]? = some (.cells #[.int .i64 a1_0, .int .i64 a1_1] 50 (0, 0))) ∧ (Below w.heap.size w w')) ?_ ?_
                   rotate_left
                   ·intro hJ5_9_11_15_17
                    refine join_ (σ := Nat) 6 (bA 24 393215) (fun s_ => [(29, .agg #[.int .i64 t373, .int .i64 t374]), (33, .agg #[.int .i64 t375, .int .i64 t376]), (35, .agg #[.int .i64 t377, .int .i64 t378]), (39, .agg #[.int .i64 t379, .int .i64 t380]), (8, .pointer (some ⟨s_, 0, none⟩))]) (fun s_ w' => (w'.cell? ⟨gb366, 0, none⟩ = some (.int .i64 a1_0) ∧ w'.cell? ⟨gb366, 1, none⟩ = some (.int .i64 a1_1) ∧ w'.cell? (ad372.add ((x21_2).toNat * 2)) = some (.int .i64 ((rd_impl_Peg l0 x21_2).f0)) ∧ w'.cell? ⟨(ad372.add ((x21_2).toNat * 2)).block, (ad372.add ((x21_2).toNat * 2)).off + 1, none⟩ = some (.int .i64 ((rd_impl_Peg l0 x21_2).f1))) ∧ (w'.heap[gb366]? = some (.cells #[.int .i64 a1_0, .int .i64 a1_1] 50 (0, 0))) ∧ (w'.heap[s_]? = some (.cells #[.int .i64 0, .int .i64 0] 50 (0, 0))) ∧ (w.heap.size ≤ s_) ∧ (w.heap.size ≤ s_) ∧ (gb366 ≠ s_) ∧ (s_ ≠ gb366) ∧ (Below w.heap.size w w')) ?_ ?_
                    rotate_left
                    ·intro hJ5_9_11_15_18
                     refine join_ (σ := Nat) 6 (bA 24 655359) (fun s_ => [(29, .agg #[.int .i64 t373, .int .i64 t374]), (33, .agg #[.int .i64 t375, .int .i64 t376]), (35, .agg #[.int .i64 t377, .int .i64 t378]), (39, .agg #[.int .i64 t379, .int .i64 t380]), (9, .pointer (some ⟨s_, 0, none⟩))]) (fun s_ w' => (w'.cell? ⟨gb366, 0, none⟩ = some (.int .i64 a1_0) ∧ w'.cell? ⟨gb366, 1, none⟩ = some (.int .i64 a1_1) ∧ w'.cell? (ad372.add ((x21_2).toNat * 2)) = some (.int .i64 ((rd_impl_Peg l0 x21_2).f0)) ∧ w'.cell? ⟨(ad372.add ((x21_2).toNat * 2)).block, (ad372.add ((x21_2).toNat * 2)).off + 1, none⟩ = some (.int .i64 ((rd_impl_Peg l0 x21_2).f1))) ∧ (w'.heap[gb366]? = some (.cells #[.int .i64 a1_0, .int .i64 a1_1] 50 (0, 0))) ∧ (w'.heap[s_]? = some (.cells #[.int .i64 0, .int .i64 0] 50 (0, 0))) ∧ (w.heap.size ≤ s_) ∧ (w.heap.size ≤ s_) ∧ (gb366 ≠ s_) ∧ (s_ ≠ gb366) ∧ (Below w.heap.size w w')) ?_ ?_
                     rotate_left
                     ·intro hJ5_9_11_15_19
                      refine join_ (σ := Nat) 6 (bA 24 1179647) (fun s_ => [(29, .agg #[.int .i64 t373, .int .i64 t374]), (33, .agg #[.int .i64 t375, .int .i64 t376]), (35, .agg #[.int .i64 t377, .int .i64 t378]), (39, .agg #[.int .i64 t379, .int .i64 t380]), (10, .pointer (some ⟨s_, 0, none⟩))]) (fun s_ w' => (w'.cell? ⟨gb366, 0, none⟩ = some (.int .i64 a1_0) ∧ w'.cell? ⟨gb366, 1, none⟩ = some (.int .i64 a1_1) ∧ w'.cell? (ad372.add ((x21_2).toNat * 2)) = some (.int .i64 ((rd_impl_Peg l0 x21_2).f0)) ∧ w'.cell? ⟨(ad372.add ((x21_2).toNat * 2)).block, (ad372.add ((x21_2).toNat * 2)).off + 1, none⟩ = some (.int .i64 ((rd_impl_Peg l0 x21_2).f1))) ∧ (w'.heap[gb366]? = some (.cells #[.int .i64 a1_0, .int .i64 a1_1] 50 (0, 0))) ∧ (w'.heap[s_]? = some (.cells #[.int .i64 0, .int .i64 0] 50 (0, 0))) ∧ (w.heap.size ≤ s_) ∧ (w.heap.size ≤ s_) ∧ (gb366 ≠ s_) ∧ (s_ ≠ gb366) ∧ (Below w.heap.size w w')) ?_ ?_
                      rotate_left
                      ·intro hJ5_9_11_15_20
                       refine join_ (σ := Nat × Nat) 6 (bA 24 884735) (fun s_ => [(29, .agg #[.int .i64 t373, .int .i64 t374]), (33, .agg #[.int .i64 t375, .int .i64 t376]), (35, .agg #[.int .i64 t377, .int .i64 t378]), (8, .pointer (some ⟨s_.1, 0, none⟩)), (9, .pointer (some ⟨s_.2, 0, none⟩))]) (fun s_ w' => (w'.cell? ⟨gb366, 0, none⟩ = some (.int .i64 a1_0) ∧ w'.cell? ⟨gb366, 1, none⟩ = some (.int .i64 a1_1) ∧ w'.cell? (ad372.add ((x21_2).toNat * 2)) = some (.int .i64 ((rd_impl_Peg l0 x21_2).f0)) ∧ w'.cell? ⟨(ad372.add ((x21_2).toNat * 2)).block, (ad372.add ((x21_2).toNat * 2)).off + 1, none⟩ = some (.int .i64 ((rd_impl_Peg l0 x21_2).f1))) ∧ (w'.heap[gb366]? = some (.cells #[.int .i64 a1_0, .int .i64 a1_1] 50 (0, 0))) ∧ (w'.heap[s_.1]? = some (.cells #[.int .i64 0, .int .i64 0] 50 (0, 0))) ∧ (w'.heap[s_.2]? = some (.cells #[.int .i64 0, .int .i64 0] 50 (0, 0))) ∧ (w.heap.size ≤ s_.1) ∧ (w.heap.size ≤ s_.1) ∧ (gb366 ≠ s_.1) ∧ (s_.1 ≠ gb366) ∧ (s_.2 ≠ s_.1) ∧ (s_.1 ≠ s_.2) ∧ (w.heap.size ≤ s_.2) ∧ (w.heap.size ≤ s_.2) ∧ (gb366 ≠ s_.2) ∧ (s_.2 ≠ gb366) ∧ (Below w.heap.size w w')) ?_ ?_
                       rotate_left
                       ·intro hJ5_9_11_18_19
                        refine join_ (σ := Nat × Nat) 6 (bA 24 1409023) (fun s_ => [(29, .agg #[.int .i64 t373, .int .i64 t374]), (33, .agg #[.int .i64 t375, .int .i64 t376]), (35, .agg #[.int .i64 t377, .int .i64 t378]), (8, .pointer (some ⟨s_.1, 0, none⟩)), (10, .pointer (some ⟨s_.2, 0, none⟩))]) (fun s_ w' => (w'.cell? ⟨gb366, 0, none⟩ = some (.int .i64 a1_0) ∧ w'.cell? ⟨gb366, 1, none⟩ = some (.int .i64 a1_1) ∧ w'.cell? (ad372.add ((x21_2).toNat * 2)) = some (.int .i64 ((rd_impl_Peg l0 x21_2).f0)) ∧ w'.cell? ⟨(ad372.add ((x21_2).toNat * 2)).block, (ad372.add ((x21_2).toNat * 2)).off + 1, none⟩ = some (.int .i64 ((rd_impl_Peg l0 x21_2).f1))) ∧ (w'.heap[gb366]? = some (.cells #[.int .i64 a1_0, .int .i64 a1_1] 50 (0, 0))) ∧ (w'.heap[s_.1]? = some (.cells #[.int .i64 0, .int .i64 0] 50 (0, 0))) ∧ (w'.heap[s_.2]? = some (.cells #[.int .i64 0, .int .i64 0] 50 (0, 0))) ∧ (w.heap.size ≤ s_.1) ∧ (w.heap.size ≤ s_.1) ∧ (gb366 ≠ s_.1) ∧ (s_.1 ≠ gb366) ∧ (s_.2 ≠ s_.1) ∧ (s_.1 ≠ s_.2) ∧ (w.heap.size ≤ s_.2) ∧ (w.heap.size ≤ s_.2) ∧ (gb366 ≠ s_.2) ∧ (s_.2 ≠ gb366) ∧ (Below w.heap.size w w')) ?_ ?_
                        rotate_left
                        ·intro hJ5_9_11_18_20
                         refine join_ (σ := Nat × Nat) 6 (bA 24 1671167) (fun s_ => [(29, .agg #[.int .i64 t373, .int .i64 t374]), (33, .agg #[.int .i64 t375, .int .i64 t376]), (35, .agg #[.int .i64 t377, .int .i64 t378]), (9, .pointer (some ⟨s_.1, 0, none⟩)), (10, .pointer (some ⟨s_.2, 0, none⟩))]) (fun s_ w' => (w'.cell? ⟨gb366, 0, none⟩ = some (.int .i64 a1_0) ∧ w'.cell? ⟨gb366, 1, none⟩ = some (.int .i64 a1_1) ∧ w'.cell? (ad372.add ((x21_2).toNat * 2)) = some (.int .i64 ((rd_impl_Peg l0 x21_2).f0)) ∧ w'.cell? ⟨(ad372.add ((x21_2).toNat * 2)).block, (ad372.add ((x21_2).toNat * 2)).off + 1, none⟩ = some (.int .i64 ((rd_impl_Peg l0 x21_2).f1))) ∧ (w'.heap[gb366]? = some (.cells #[.int .i64 a1_0, .int .i64 a1_1] 50 (0, 0))) ∧ (w'.heap[s_.1]? = some (.cells #[.int .i64 0, .int .i64 0] 50 (0, 0))) ∧ (w'.heap[s_.2]? = some (.cells #[.int .i64 0, .int .i64 0] 50 (0, 0))) ∧ (w.heap.size ≤ s_.1) ∧ (w.heap.size ≤ s_.1) ∧ (gb366 ≠ s_.1) ∧ (s_.1 ≠ gb366) ∧ (s_.2 ≠ s_.1) ∧ (s_.1 ≠ s_.2) ∧ (w.heap.size ≤ s_.2) ∧ (w.heap.size ≤ s_.2) ∧ (gb366 ≠ s_.2) ∧ (s_.2 ≠ gb366) ∧ (Below w.heap.size w w')) ?_ ?_
                         rotate_left
                         ·intro hJ5_9_11_19_20
                          refine join_ (σ := Nat × Nat × Nat) 6 (bA 24 1931263) (fun s_ => [(29, .agg #[.int .i64 t373, .int .i64 t374]), (33, .agg #[.int .i64 t375, .int .i64 t376]), (8, .pointer (some ⟨s_.1, 0, none⟩)), (9, .pointer (some ⟨s_.2.1, 0, none⟩)), (10, .pointer (some ⟨s_.2.2, 0, none⟩))]) (fun s_ w' => (w'.cell? ⟨gb366, 0, none⟩ = some (.int .i64 a1_0) ∧ w'.cell? ⟨gb366, 1, none⟩ = some (.int .i64 a1_1) ∧ w'.cell? (ad372.add ((x21_2).toNat * 2)) = some (.int .i64 ((rd_impl_Peg l0 x21_2).f0)) ∧ w'.cell? ⟨(ad372.add ((x21_2).toNat * 2)).block, (ad372.add ((x21_2).toNat * 2)).off + 1, none⟩ = some (.int .i64 ((rd_impl_Peg l0 x21_2).f1))) ∧ (w'.heap[gb366]? = some (.cells #[.int .i64 a1_0, .int .i64 a1_1] 50 (0, 0))) ∧ (w'.heap[s_.1]? = some (.cells #[.int .i64 0, .int .i64 0] 50 (0, 0))) ∧ (w'.heap[s_.2.1]? = some (.cells #[.int .i64 0, .int .i64 0] 50 (0, 0))) ∧ (w'.heap[s_.2.2]? = some (.cells #[.int .i64 0, .int .i64 0] 50 (0, 0))) ∧ (w.heap.size ≤ s_.1) ∧ (w.heap.size ≤ s_.1) ∧ (gb366 ≠ s_.1) ∧ (s_.1 ≠ gb366) ∧ (s_.2.1 ≠ s_.1) ∧ (s_.1 ≠ s_.2.1) ∧ (s_.2.2 ≠ s_.1) ∧ (s_.1 ≠ s_.2.2) ∧ (w.heap.size ≤ s_.2.1) ∧ (w.heap.size ≤ s_.2.1) ∧ (gb366 ≠ s_.2.1) ∧ (s_.2.1 ≠ gb366) ∧ (s_.2.2 ≠ s_.2.1) ∧ (s_.2.1 ≠ s_.2.2) ∧ (w.heap.size ≤ s_.2.2) ∧ (w.heap.size ≤ s_.2.2) ∧ (gb366 ≠ s_.2.2) ∧ (s_.2.2 ≠ gb366) ∧ (Below w.heap.size w w')) ?_ ?_
                          rotate_left
                          ·intro hJ5_9_18_19_20
                           refine join_ (σ := Unit) 7 (bA 24 131071) (fun s_ => [(29, .agg #[.int .i64 t373, .int .i64 t374]), (33, .agg #[.int .i64 t375, .int .i64 t376]), (35, .agg #[.int .i64 t377, .int .i64 t378]), (39, .agg #[.int .i64 t379, .int .i64 t380])]) (fun s_ w' => (w'.cell? ⟨gb366, 0, none⟩ = some (.int .i64 a1_0) ∧ w'.cell? ⟨gb366, 1, none⟩ = some (.int .i64 a1_1) ∧ w'.cell? (ad372.add ((x21_2).toNat * 2)) = some (.int .i64 ((rd_impl_Peg l0 x21_2).f0)) ∧ w'.cell? ⟨(ad372.add ((x21_2).toNat * 2)).block, (ad372.add ((x21_2).toNat * 2)).off + 1, none⟩ = some (.int .i64 ((rd_impl_Peg l0 x21_2).f1))) ∧ (w'.heap[gb366]? = some (.cells #[.int .i64 a1_0, .int .i64 a1_1] 50 (0, 0))) ∧ (Below w.heap.size w w')) ?_ ?_
                           rotate_left
                           ·intro hJ5_9_11_15
                            refine join_ (σ := Nat) 7 (bA 24 360447) (fun s_ => [(29, .agg #[.int .i64 t373, .int .i64 t374]), (33, .agg #[.int .i64 t375, .int .i64 t376]), (35, .agg #[.int .i64 t377, .int .i64 t378]), (8, .pointer (some ⟨s_, 0, none⟩))]) (fun s_ w' => (w'.cell? ⟨gb366, 0, none⟩ = some (.int .i64 a1_0) ∧ w'.cell? ⟨gb366, 1, none⟩ = some (.int .i64 a1_1) ∧ w'.cell? (ad372.add ((x21_2).toNat * 2)) = some (.int .i64 ((rd_impl_Peg l0 x21_2).f0)) ∧ w'.cell? ⟨(ad372.add ((x21_2).toNat * 2)).block, (ad372.add ((x21_2).toNat * 2)).off + 1, none⟩ = some (.int .i64 ((rd_impl_Peg l0 x21_2).f1))) ∧ (w'.heap[gb366]? = some (.cells #[.int .i64 a1_0, .int .i64 a1_1] 50 (0, 0))) ∧ (w'.heap[s_]? = some (.cells #[.int .i64 0, .int .i64 0] 50 (0, 0))) ∧ (w.heap.size ≤ s_) ∧ (w.heap.size ≤ s_) ∧ (gb366 ≠ s_) ∧ (s_ ≠ gb366) ∧ (Below w.heap.size w w')) ?_ ?_
                            rotate_left
                            ·intro hJ5_9_11_18
                             refine join_ (σ := Nat) 7 (bA 24 622591) (fun s_ => [(29, .agg #[.int .i64 t373, .int .i64 t374]), (33, .agg #[.int .i64 t375, .int .i64 t376]), (35, .agg #[.int .i64 t377, .int .i64 t378]), (9, .pointer (some ⟨s_, 0, none⟩))]) (fun s_ w' => (w'.cell? ⟨gb366, 0, none⟩ = some (.int .i64 a1_0) ∧ w'.cell? ⟨gb366, 1, none⟩ = some (.int .i64 a1_1) ∧ w'.cell? (ad372.add ((x21_2).toNat * 2)) = some (.int .i64 ((rd_impl_Peg l0 x21_2).f0)) ∧ w'.cell? ⟨(ad372.add ((x21_2).toNat * 2)).block, (ad372.add ((x21_2).toNat * 2)).off + 1, none⟩ = some (.int .i64 ((rd_impl_Peg l0 x21_2).f1))) ∧ (w'.heap[gb366]? = some (.cells #[.int .i64 a1_0, .int .i64 a1_1] 50 (0, 0))) ∧ (w'.heap[s_]? = some (.cells #[.int .i64 0, .int .i64 0] 50 (0, 0))) ∧ (w.heap.size ≤ s_) ∧ (w.heap.size ≤ s_) ∧ (gb366 ≠ s_) ∧ (s_ ≠ gb366) ∧ (Below w.heap.size w w')) ?_ ?_
                             rotate_left
                             ·intro hJ5_9_11_19
                              refine join_ (σ := Nat) 7 (bA 24 1146879) (fun s_ => [(29, .agg #[.int .i64 t373, .int .i64 t374]), (33, .agg #[.int .i64 t375, .int .i64 t376]), (35, .agg #[.int .i64 t377, .int .i64 t378]), (10, .pointer (some ⟨s_, 0, none⟩))]) (fun s_ w' => (w'.cell? ⟨gb366, 0, none⟩ = some (.int .i64 a1_0) ∧ w'.cell? ⟨gb366, 1, none⟩ = some (.int .i64 a1_1) ∧ w'.cell? (ad372.add ((x21_2).toNat * 2)) = some (.int .i64 ((rd_impl_Peg l0 x21_2).f0)) ∧ w'.cell? ⟨(ad372.add ((x21_2).toNat * 2)).block, (ad372.add ((x21_2).toNat * 2)).off + 1, none⟩ = some (.int .i64 ((rd_impl_Peg l0 x21_2).f1))) ∧ (w'.heap[gb366]? = some (.cells #[.int .i64 a1_0, .int .i64 a1_1] 50 (0, 0))) ∧ (w'.heap[s_]? = some (.cells #[.int .i64 0, .int .i64 0] 50 (0, 0))) ∧ (w.heap.size ≤ s_) ∧ (w.heap.size ≤ s_) ∧ (gb366 ≠ s_) ∧ (s_ ≠ gb366) ∧ (Below w.heap.size w w')) ?_ ?_
                              rotate_left
                              ·intro hJ5_9_11_20
                               refine join_ (σ := Nat × Nat) 7 (bA 24 882687) (fun s_ => [(29, .agg #[.int .i64 t373, .int .i64 t374]), (33, .agg #[.int .i64 t375, .int .i64 t376]), (8, .pointer (some ⟨s_.1, 0, none⟩)), (9, .pointer (some ⟨s_.2, 0, none⟩))]) (fun s_ w' => (w'.cell? ⟨gb366, 0, none⟩ = some (.int .i64 a1_0) ∧ w'.cell? ⟨gb366, 1, none⟩ = some (.int .i64 a1_1) ∧ w'.cell? (ad372.add ((x21_2).toNat * 2)) = some (.int .i64 ((rd_impl_Peg l0 x21_2).f0)) ∧ w'.cell? ⟨(ad372.add ((x21_2).toNat * 2)).block, (ad372.add ((x21_2).toNat * 2)).off + 1, none⟩ = some (.int .i64 ((rd_impl_Peg l0 x21_2).f1))) ∧ (w'.heap[gb366]? = some (.cells #[.int .i64 a1_0, .int .i64 a1_1] 50 (0, 0))) ∧ (w'.heap[s_.1]? = some (.cells #[.int .i64 0, .int .i64 0] 50 (0, 0))) ∧ (w'.heap[s_.2]? = some (.cells #[.int .i64 0, .int .i64 0] 50 (0, 0))) ∧ (w.heap.size ≤ s_.1) ∧ (w.heap.size ≤ s_.1) ∧ (gb366 ≠ s_.1) ∧ (s_.1 ≠ gb366) ∧ (s_.2 ≠ s_.1) ∧ (s_.1 ≠ s_.2) ∧ (w.heap.size ≤ s_.2) ∧ (w.heap.size ≤ s_.2) ∧ (gb366 ≠ s_.2) ∧ (s_.2 ≠ gb366) ∧ (Below w.heap.size w w')) ?_ ?_
                               rotate_left
                               ·intro hJ5_9_18_19
                                refine join_ (σ := Nat × Nat) 7 (bA 24 1406975) (fun s_ => [(29, .agg #[.int .i64 t373, .int .i64 t374]), (33, .agg #[.int .i64 t375, .int .i64 t376]), (8, .pointer (some ⟨s_.1, 0, none⟩)), (10, .pointer (some ⟨s_.2, 0, none⟩))]) (fun s_ w' => (w'.cell? ⟨gb366, 0, none⟩ = some (.int .i64 a1_0) ∧ w'.cell? ⟨gb366, 1, none⟩ = some (.int .i64 a1_1) ∧ w'.cell? (ad372.add ((x21_2).toNat * 2)) = some (.int .i64 ((rd_impl_Peg l0 x21_2).f0)) ∧ w'.cell? ⟨(ad372.add ((x21_2).toNat * 2)).block, (ad372.add ((x21_2).toNat * 2)).off + 1, none⟩ = some (.int .i64 ((rd_impl_Peg l0 x21_2).f1))) ∧ (w'.heap[gb366]? = some (.cells #[.int .i64 a1_0, .int .i64 a1_1] 50 (0, 0))) ∧ (w'.heap[s_.1]? = some (.cells #[.int .i64 0, .int .i64 0] 50 (0, 0))) ∧ (w'.heap[s_.2]? = some (.cells #[.int .i64 0, .int .i64 0] 50 (0, 0))) ∧ (w.heap.size ≤ s_.1) ∧ (w.heap.size ≤ s_.1) ∧ (gb366 ≠ s_.1) ∧ (s_.1 ≠ gb366) ∧ (s_.2 ≠ s_.1) ∧ (s_.1 ≠ s_.2) ∧ (w.heap.size ≤ s_.2) ∧ (w.heap.size ≤ s_.2) ∧ (gb366 ≠ s_.2) ∧ (s_.2 ≠ gb366) ∧ (Below w.heap.size w w')) ?_ ?_
                                rotate_left
                                ·intro hJ5_9_18_20
                                 refine join_ (σ := Nat × Nat) 7 (bA 24 1669119) (fun s_ => [(29, .agg #[.int .i64 t373, .int .i64 t374]), (33, .agg #[.int .i64 t375, .int .i64 t376]), (9, .pointer (some ⟨s_.1, 0, none⟩)), (10, .pointer (some ⟨s_.2, 0, none⟩))]) (fun s_ w' => (w'.cell? ⟨gb366, 0, none⟩ = some (.int .i64 a1_0) ∧ w'.cell? ⟨gb366, 1, none⟩ = some (.int .i64 a1_1) ∧ w'.cell? (ad372.add ((x21_2).toNat * 2)) = some (.int .i64 ((rd_impl_Peg l0 x21_2).f0)) ∧ w'.cell? ⟨(ad372.add ((x21_2).toNat * 2)).block, (ad372.add ((x21_2).toNat * 2)).off + 1, none⟩ = some (.int .i64 ((rd_impl_Peg l0 x21_2).f1))) ∧ (w'.heap[gb366]? = some (.cells #[.int .i64 a1_0, .int .i64 a1_1] 50 (0, 0))) ∧ (w'.heap[s_.1]? = some (.cells #[.int .i64 0, .int .i64 0] 50 (0, 0))) ∧ (w'.heap[s_.2]? = some (.cells #[.int .i64 0, .int .i64 0] 50 (0, 0))) ∧ (w.heap.size ≤ s_.1) ∧ (w.heap.size ≤ s_.1) ∧ (gb366 ≠ s_.1) ∧ (s_.1 ≠ gb366) ∧ (s_.2 ≠ s_.1) ∧ (s_.1 ≠ s_.2) ∧ (w.heap.size ≤ s_.2) ∧ (w.heap.size ≤ s_.2) ∧ (gb366 ≠ s_.2) ∧ (s_.2 ≠ gb366) ∧ (Below w.heap.size w w')) ?_ ?_
                                 rotate_left
                                 ·intro hJ5_9_19_20
                                  refine join_ (σ := Nat × Nat × Nat) 7 (bA 24 1930751) (fun s_ => [(29, .agg #[.int .i64 t373, .int .i64 t374]), (8, .pointer (some ⟨s_.1, 0, none⟩)), (9, .pointer (some ⟨s_.2.1, 0, none⟩)), (10, .pointer (some ⟨s_.2.2, 0, none⟩))]) (fun s_ w' => (w'.cell? ⟨gb366, 0, none⟩ = some (.int .i64 a1_0) ∧ w'.cell? ⟨gb366, 1, none⟩ = some (.int .i64 a1_1) ∧ w'.cell? (ad372.add ((x21_2).toNat * 2)) = some (.int .i64 ((rd_impl_Peg l0 x21_2).f0)) ∧ w'.cell? ⟨(ad372.add ((x21_2).toNat * 2)).block, (ad372.add ((x21_2).toNat * 2)).off + 1, none⟩ = some (.int .i64 ((rd_impl_Peg l0 x21_2).f1))) ∧ (w'.heap[gb366]? = some (.cells #[.int .i64 a1_0, .int .i64 a1_1] 50 (0, 0))) ∧ (w'.heap[s_.1]? = some (.cells #[.int .i64 0, .int .i64 0] 50 (0, 0))) ∧ (w'.heap[s_.2.1]? = some (.cells #[.int .i64 0, .int .i64 0] 50 (0, 0))) ∧ (w'.heap[s_.2.2]? = some (.cells #[.int .i64 0, .int .i64 0] 50 (0, 0))) ∧ (w.heap.size ≤ s_.1) ∧ (w.heap.size ≤ s_.1) ∧ (gb366 ≠ s_.1) ∧ (s_.1 ≠ gb366) ∧ (s_.2.1 ≠ s_.1) ∧ (s_.1 ≠ s_.2.1) ∧ (s_.2.2 ≠ s_.1) ∧ (s_.1 ≠ s_.2.2) ∧ (w.heap.size ≤ s_.2.1) ∧ (w.heap.size ≤ s_.2.1) ∧ (gb366 ≠ s_.2.1) ∧ (s_.2.1 ≠ gb366) ∧ (s_.2.2 ≠ s_.2.1) ∧ (s_.2.1 ≠ s_.2.2) ∧ (w.heap.size ≤ s_.2.2) ∧ (w.heap.size ≤ s_.2.2) ∧ (gb366 ≠ s_.2.2) ∧ (s_.2.2 ≠ gb366) ∧ (Below w.heap.size w w')) ?_ ?_
                                  rotate_left
                                  ·intro hJ5_18_19_20
                                   refine join_ (σ := Unit) 8 (bA 24 98303) (fun s_ => [(29, .agg #[.int .i64 t373, .int .i64 t374]), (33, .agg #[.int .i64 t375, .int .i64 t376]), (35, .agg #[.int .i64 t377, .int .i64 t378])]) (fun s_ w' => (w'.cell? ⟨gb366, 0, none⟩ = some (.int .i64 a1_0) ∧ w'.cell? ⟨gb366, 1, none⟩ = some (.int .i64 a1_1) ∧ w'.cell? (ad372.add ((x21_2).toNat * 2)) = some (.int .i64 ((rd_impl_Peg l0 x21_2).f0)) ∧ w'.cell? ⟨(ad372.add ((x21_2).toNat * 2)).block, (ad372.add ((x21_2).toNat * 2)).off + 1, none⟩ = some (.int .i64 ((rd_impl_Peg l0 x21_2).f1))) ∧ (w'.heap[gb366]? = some (.cells #[.int .i64 a1_0, .int .i64 a1_1] 50 (0, 0))) ∧ (Below w.heap.size w w')) ?_ ?_
                                   rotate_left
                                   ·intro hJ5_9_11
                                    refine join_ (σ := Nat) 8 (bA 24 358399) (fun s_ => [(29, .agg #[.int .i64 t373, .int .i64 t374]), (33, .agg #[.int .i64 t375, .int .i64 t376]), (8, .pointer (some ⟨s_, 0, none⟩))]) (fun s_ w' => (w'.cell? ⟨gb366, 0, none⟩ = some (.int .i64 a1_0) ∧ w'.cell? ⟨gb366, 1, none⟩ = some (.int .i64 a1_1) ∧ w'.cell? (ad372.add ((x21_2).toNat * 2)) = some (.int .i64 ((rd_impl_Peg l0 x21_2).f0)) ∧ w'.cell? ⟨(ad372.add ((x21_2).toNat * 2)).block, (ad372.add ((x21_2).toNat * 2)).off + 1, none⟩ = some (.int .i64 ((rd_impl_Peg l0 x21_2).f1))) ∧ (w'.heap[gb366]? = some (.cells #[.int .i64 a1_0, .int .i64 a1_1] 50 (0, 0))) ∧ (w'.heap[s_]? = some (.cells #[.int .i64 0, .int .i64 0] 50 (0, 0))) ∧ (w.heap.size ≤ s_) ∧ (w.heap.size ≤ s_) ∧ (gb366 ≠ s_) ∧ (s_ ≠ gb366) ∧ (Below w.heap.size w w')) ?_ ?_
                                    rotate_left
                                    ·intro hJ5_9_18
                                     refine join_ (σ := Nat) 8 (bA 24 620543) (fun s_ => [(29, .agg #[.int .i64 t373, .int .i64 t374]), (33, .agg #[.int .i64 t375, .int .i64 t376]), (9, .pointer (some ⟨s_, 0, none⟩))]) (fun s_ w' => (w'.cell? ⟨gb366, 0, none⟩ = some (.int .i64 a1_0) ∧ w'.cell? ⟨gb366, 1, none⟩ = some (.int .i64 a1_1) ∧ w'.cell? (ad372.add ((x21_2).toNat * 2)) = some (.int .i64 ((rd_impl_Peg l0 x21_2).f0)) ∧ w'.cell? ⟨(ad372.add ((x21_2).toNat * 2)).block, (ad372.add ((x21_2).toNat * 2)).off + 1, none⟩ = some (.int .i64 ((rd_impl_Peg l0 x21_2).f1))) ∧ (w'.heap[gb366]? = some (.cells #[.int .i64 a1_0, .int .i64 a1_1] 50 (0, 0))) ∧ (w'.heap[s_]? = some (.cells #[.int .i64 0, .int .i64 0] 50 (0, 0))) ∧ (w.heap.size ≤ s_) ∧ (w.heap.size ≤ s_) ∧ (gb366 ≠ s_) ∧ (s_ ≠ gb366) ∧ (Below w.heap.size w w')) ?_ ?_
                                     rotate_left
                                     ·intro hJ5_9_19
                                      refine join_ (σ := Nat) 8 (bA 24 1144831) (fun s_ => [(29, .agg #[.int .i64 t373, .int .i64 t374]), (33, .agg #[.int .i64 t375, .int .i64 t376]), (10, .pointer (some ⟨s_, 0, none⟩))]) (fun s_ w' => (w'.cell? ⟨gb366, 0, none⟩ = some (.int .i64 a1_0) ∧ w'.cell? ⟨gb366, 1, none⟩ = some (.int .i64 a1_1) ∧ w'.cell? (ad372.add ((x21_2).toNat * 2)) = some (.int .i64 ((rd_impl_Peg l0 x21_2).f0)) ∧ w'.cell? ⟨(ad372.add ((x21_2).toNat * 2)).block, (ad372.add ((x21_2).toNat * 2)).off + 1, none⟩ = some (.int .i64 ((rd_impl_Peg l0 x21_2).f1))) ∧ (w'.heap[gb366]? = some (.cells #[.int .i64 a1_0, .int .i64 a1_1] 50 (0, 0))) ∧ (w'.heap[s_]? = some (.cells #[.int .i64 0, .int .i64 0] 50 (0, 0))) ∧ (w.heap.size ≤ s_) ∧ (w.heap.size ≤ s_) ∧ (gb366 ≠ s_) ∧ (s_ ≠ gb366) ∧ (Below w.heap.size w w')) ?_ ?_
                                      rotate_left
                                      ·intro hJ5_9_20
                                       refine join_ (σ := Nat × Nat) 8 (bA 24 882175) (fun s_ => [(29, .agg #[.int .i64 t373, .int .i64 t374]), (8, .pointer (some ⟨s_.1, 0, none⟩)), (9, .pointer (some ⟨s_.2, 0, none⟩))]) (fun s_ w' => (w'.cell? ⟨gb366, 0, none⟩ = some (.int .i64 a1_0) ∧ w'.cell? ⟨gb366, 1, none⟩ = some (.int .i64 a1_1) ∧ w'.cell? (ad372.add ((x21_2).toNat * 2)) = some (.int .i64 ((rd_impl_Peg l0 x21_2).f0)) ∧ w'.cell? ⟨(ad372.add ((x21_2).toNat * 2)).block, (ad372.add ((x21_2).toNat * 2)).off + 1, none⟩ = some (.int .i64 ((rd_impl_Peg l0 x21_2).f1))) ∧ (w'.heap[gb366]? = some (.cells #[.int .i64 a1_0, .int .i64 a1_1] 50 (0, 0))) ∧ (w'.heap[s_.1]? = some (.cells #[.int .i64 0, .int .i64 0] 50 (0, 0))) ∧ (w'.heap[s_.2]? = some (.cells #[.int .i64 0, .int .i64 0] 50 (0, 0))) ∧ (w.heap.size ≤ s_.1) ∧ (w.heap.size ≤ s_.1) ∧ (gb366 ≠ s_.1) ∧ (s_.1 ≠ gb366) ∧ (s_.2 ≠ s_.1) ∧ (s_.1 ≠ s_.2) ∧ (w.heap.size ≤ s_.2) ∧ (w.heap.size ≤ s_.2) ∧ (gb366 ≠ s_.2) ∧ (s_.2 ≠ gb366) ∧ (Below w.heap.size w w')) ?_ ?_
                                       rotate_left
                                       ·intro hJ5_18_19
                                        refine join_ (σ := Nat × Nat) 8 (bA 24 1406463) (fun s_ => [(29, .agg #[.int .i64 t373, .int .i64 t374]), (8, .pointer (some ⟨s_.1, 0, none⟩)), (10, .pointer (some ⟨s_.2, 0, none⟩))]) (fun s_ w' => (w'.cell? ⟨gb366, 0, none⟩ = some (.int .i64 a1_0) ∧ w'.cell? ⟨gb366, 1, none⟩ = some (.int .i64 a1_1) ∧ w'.cell? (ad372.add ((x21_2).toNat * 2)) = some (.int .i64 ((rd_impl_Peg l0 x21_2).f0)) ∧ w'.cell? ⟨(ad372.add ((x21_2).toNat * 2)).block, (ad372.add ((x21_2).toNat * 2)).off + 1, none⟩ = some (.int .i64 ((rd_impl_Peg l0 x21_2).f1))) ∧ (w'.heap[gb366]? = some (.cells #[.int .i64 a1_0, .int .i64 a1_1] 50 (0, 0))) ∧ (w'.heap[s_.1]? = some (.cells #[.int .i64 0, .int .i64 0] 50 (0, 0))) ∧ (w'.heap[s_.2]? = some (.cells #[.int .i64 0, .int .i64 0] 50 (0, 0))) ∧ (w.heap.size ≤ s_.1) ∧ (w.heap.size ≤ s_.1) ∧ (gb366 ≠ s_.1) ∧ (s_.1 ≠ gb366) ∧ (s_.2 ≠ s_.1) ∧ (s_.1 ≠ s_.2) ∧ (w.heap.size ≤ s_.2) ∧ (w.heap.size ≤ s_.2) ∧ (gb366 ≠ s_.2) ∧ (s_.2 ≠ gb366) ∧ (Below w.heap.size w w')) ?_ ?_
                                        rotate_left
                                        ·intro hJ5_18_20
                                         refine join_ (σ := Nat × Nat) 8 (bA 24 1668607) (fun s_ => [(29, .agg #[.int .i64 t373, .int .i64 t374]), (9, .pointer (some ⟨s_.1, 0, none⟩)), (10, .pointer (some ⟨s_.2, 0, none⟩))]) (fun s_ w' => (w'.cell? ⟨gb366, 0, none⟩ = some (.int .i64 a1_0) ∧ w'.cell? ⟨gb366, 1, none⟩ = some (.int .i64 a1_1) ∧ w'.cell? (ad372.add ((x21_2).toNat * 2)) = some (.int .i64 ((rd_impl_Peg l0 x21_2).f0)) ∧ w'.cell? ⟨(ad372.add ((x21_2).toNat * 2)).block, (ad372.add ((x21_2).toNat * 2)).off + 1, none⟩ = some (.int .i64 ((rd_impl_Peg l0 x21_2).f1))) ∧ (w'.heap[gb366]? = some (.cells #[.int .i64 a1_0, .int .i64 a1_1] 50 (0, 0))) ∧ (w'.heap[s_.1]? = some (.cells #[.int .i64 0, .int .i64 0] 50 (0, 0))) ∧ (w'.heap[s_.2]? = some (.cells #[.int .i64 0, .int .i64 0] 50 (0, 0))) ∧ (w.heap.size ≤ s_.1) ∧ (w.heap.size ≤ s_.1) ∧ (gb366 ≠ s_.1) ∧ (s_.1 ≠ gb366) ∧ (s_.2 ≠ s_.1) ∧ (s_.1 ≠ s_.2) ∧ (w.heap.size ≤ s_.2) ∧ (w.heap.size ≤ s_.2) ∧ (gb366 ≠ s_.2) ∧ (s_.2 ≠ gb366) ∧ (Below w.heap.size w w')) ?_ ?_
                                         rotate_left
                                         ·intro hJ5_19_20
                                          refine join_ (σ := Nat × Nat × Nat) 8 (bA 24 1930719) (fun s_ => [(8, .pointer (some ⟨s_.1, 0, none⟩)), (9, .pointer (some ⟨s_.2.1, 0, none⟩)), (10, .pointer (some ⟨s_.2.2, 0, none⟩))]) (fun s_ w' => (w'.cell? ⟨gb366, 0, none⟩ = some (.int .i64 a1_0) ∧ w'.cell? ⟨gb366, 1, none⟩ = some (.int .i64 a1_1) ∧ w'.cell? (ad372.add ((x21_2).toNat * 2)) = some (.int .i64 ((rd_impl_Peg l0 x21_2).f0)) ∧ w'.cell? ⟨(ad372.add ((x21_2).toNat * 2)).block, (ad372.add ((x21_2).toNat * 2)).off + 1, none⟩ = some (.int .i64 ((rd_impl_Peg l0 x21_2).f1))) ∧ (w'.heap[gb366]? = some (.cells #[.int .i64 a1_0, .int .i64 a1_1] 50 (0, 0))) ∧ (w'.heap[s_.1]? = some (.cells #[.int .i64 0, .int .i64 0] 50 (0, 0))) ∧ (w'.heap[s_.2.1]? = some (.cells #[.int .i64 0, .int .i64 0] 50 (0, 0))) ∧ (w'.heap[s_.2.2]? = some (.cells #[.int .i64 0, .int .i64 0] 50 (0, 0))) ∧ (w.heap.size ≤ s_.1) ∧ (w.heap.size ≤ s_.1) ∧ (gb366 ≠ s_.1) ∧ (s_.1 ≠ gb366) ∧ (s_.2.1 ≠ s_.1) ∧ (s_.1 ≠ s_.2.1) ∧ (s_.2.2 ≠ s_.1) ∧ (s_.1 ≠ s_.2.2) ∧ (w.heap.size ≤ s_.2.1) ∧ (w.heap.size ≤ s_.2.1) ∧ (gb366 ≠ s_.2.1) ∧ (s_.2.1 ≠ gb366) ∧ (s_.2.2 ≠ s_.2.1) ∧ (s_.2.1 ≠ s_.2.2) ∧ (w.heap.size ≤ s_.2.2) ∧ (w.heap.size ≤ s_.2.2) ∧ (gb366 ≠ s_.2.2) ∧ (s_.2.2 ≠ gb366) ∧ (Below w.heap.size w w')) ?_ ?_
                                          rotate_left
                                          ·intro hJ18_19_20
                                           refine join_ (σ := Unit) 9 (bA 24 96255) (fun s_ => [(29, .agg #[.int .i64 t373, .int .i64 t374]), (33, .agg #[.int .i64 t375, .int .i64 t376])]) (fun s_ w' => (w'.cell? ⟨gb366, 0, none⟩ = some (.int .i64 a1_0) ∧ w'.cell? ⟨gb366, 1, none⟩ = some (.int .i64 a1_1) ∧ w'.cell? (ad372.add ((x21_2).toNat * 2)) = some (.int .i64 ((rd_impl_Peg l0 x21_2).f0)) ∧ w'.cell? ⟨(ad372.add ((x21_2).toNat * 2)).block, (ad372.add ((x21_2).toNat * 2)).off + 1, none⟩ = some (.int .i64 ((rd_impl_Peg l0 x21_2).f1))) ∧ (w'.heap[gb366]? = some (.cells #[.int .i64 a1_0, .int .i64 a1_1] 50 (0, 0))) ∧ (Below w.heap.size w w')) ?_ ?_
                                           rotate_left
                                           ·intro hJ5_9
                                            refine join_ (σ := Nat) 9 (bA 24 357887) (fun s_ => [(29, .agg #[.int .i64 t373, .int .i64 t374]), (8, .pointer (some ⟨s_, 0, none⟩))]) (fun s_ w' => (w'.cell? ⟨gb366, 0, none⟩ = some (.int .i64 a1_0) ∧ w'.cell? ⟨gb366, 1, none⟩ = some (.int .i64 a1_1) ∧ w'.cell? (ad372.add ((x21_2).toNat * 2)) = some (.int .i64 ((rd_impl_Peg l0 x21_2).f0)) ∧ w'.cell? ⟨(ad372.add ((x21_2).toNat * 2)).block, (ad372.add ((x21_2).toNat * 2)).off + 1, none⟩ = some (.int .i64 ((rd_impl_Peg l0 x21_2).f1))) ∧ (w'.heap[gb366]? = some (.cells #[.int .i64 a1_0, .int .i64 a1_1] 50 (0, 0))) ∧ (w'.heap[s_]? = some (.cells #[.int .i64 0, .int .i64 0] 50 (0, 0))) ∧ (w.heap.size ≤ s_) ∧ (w.heap.size ≤ s_) ∧ (gb366 ≠ s_) ∧ (s_ ≠ gb366) ∧ (Below w.heap.size w w')) ?_ ?_
                                            rotate_left
                                            ·intro hJ5_18
                                             refine join_ (σ := Nat) 9 (bA 24 620031) (fun s_ => [(29, .agg #[.int .i64 t373, .int .i64 t374]), (9, .pointer (some ⟨s_, 0, none⟩))]) (fun s_ w' => (w'.cell? ⟨gb366, 0, none⟩ = some (.int .i64 a1_0) ∧ w'.cell? ⟨gb366, 1, none⟩ = some (.int .i64 a1_1) ∧ w'.cell? (ad372.add ((x21_2).toNat * 2)) = some (.int .i64 ((rd_impl_Peg l0 x21_2).f0)) ∧ w'.cell? ⟨(ad372.add ((x21_2).toNat * 2)).block, (ad372.add ((x21_2).toNat * 2)).off + 1, none⟩ = some (.int .i64 ((rd_impl_Peg l0 x21_2).f1))) ∧ (w'.heap[gb366]? = some (.cells #[.int .i64 a1_0, .int .i64 a1_1] 50 (0, 0))) ∧ (w'.heap[s_]? = some (.cells #[.int .i64 0, .int .i64 0] 50 (0, 0))) ∧ (w.heap.size ≤ s_) ∧ (w.heap.size ≤ s_) ∧ (gb366 ≠ s_) ∧ (s_ ≠ gb366) ∧ (Below w.heap.size w w')) ?_ ?_
                                             rotate_left
                                             ·intro hJ5_19
                                              refine join_ (σ := Nat) 9 (bA 24 1144319) (fun s_ => [(29, .agg #[.int .i64 t373, .int .i64 t374]), (10, .pointer (some ⟨s_, 0, none⟩))]) (fun s_ w' => (w'.cell? ⟨gb366, 0, none⟩ = some (.int .i64 a1_0) ∧ w'.cell? ⟨gb366, 1, none⟩ = some (.int .i64 a1_1) ∧ w'.cell? (ad372.add ((x21_2).toNat * 2)) = some (.int .i64 ((rd_impl_Peg l0 x21_2).f0)) ∧ w'.cell? ⟨(ad372.add ((x21_2).toNat * 2)).block, (ad372.add ((x21_2).toNat * 2)).off + 1, none⟩ = some (.int .i64 ((rd_impl_Peg l0 x21_2).f1))) ∧ (w'.heap[gb366]? = some (.cells #[.int .i64 a1_0, .int .i64 a1_1] 50 (0, 0))) ∧ (w'.heap[s_]? = some (.cells #[.int .i64 0, .int .i64 0] 50 (0, 0))) ∧ (w.heap.size ≤ s_) ∧ (w.heap.size ≤ s_) ∧ (gb366 ≠ s_) ∧ (s_ ≠ gb366) ∧ (Below w.heap.size w w')) ?_ ?_
                                              rotate_left
                                              ·intro hJ5_20
                                               refine join_ (σ := Nat × Nat) 9 (bA 24 882143) (fun s_ => [(8, .pointer (some ⟨s_.1, 0, none⟩)), (9, .pointer (some ⟨s_.2, 0, none⟩))]) (fun s_ w' => (w'.cell? ⟨gb366, 0, none⟩ = some (.int .i64 a1_0) ∧ w'.cell? ⟨gb366, 1, none⟩ = some (.int .i64 a1_1) ∧ w'.cell? (ad372.add ((x21_2).toNat * 2)) = some (.int .i64 ((rd_impl_Peg l0 x21_2).f0)) ∧ w'.cell? ⟨(ad372.add ((x21_2).toNat * 2)).block, (ad372.add ((x21_2).toNat * 2)).off + 1, none⟩ = some (.int .i64 ((rd_impl_Peg l0 x21_2).f1))) ∧ (w'.heap[gb366]? = some (.cells #[.int .i64 a1_0, .int .i64 a1_1] 50 (0, 0))) ∧ (w'.heap[s_.1]? = some (.cells #[.int .i64 0, .int .i64 0] 50 (0, 0))) ∧ (w'.heap[s_.2]? = some (.cells #[.int .i64 0, .int .i64 0] 50 (0, 0))) ∧ (w.heap.size ≤ s_.1) ∧ (w.heap.size ≤ s_.1) ∧ (gb366 ≠ s_.1) ∧ (s_.1 ≠ gb366) ∧ (s_.2 ≠ s_.1) ∧ (s_.1 ≠ s_.2) ∧ (w.heap.size ≤ s_.2) ∧ (w.heap.size ≤ s_.2) ∧ (gb366 ≠ s_.2) ∧ (s_.2 ≠ gb366) ∧ (Below w.heap.size w w')) ?_ ?_
                                               rotate_left
                                               ·intro hJ18_19
                                                refine join_ (σ := Nat × Nat) 9 (bA 24 1406431) (fun s_ => [(8, .pointer (some ⟨s_.1, 0, none⟩)), (10, .pointer (some ⟨s_.2, 0, none⟩))]) (fun s_ w' => (w'.cell? ⟨gb366, 0, none⟩ = some (.int .i64 a1_0) ∧ w'.cell? ⟨gb366, 1, none⟩ = some (.int .i64 a1_1) ∧ w'.cell? (ad372.add ((x21_2).toNat * 2)) = some (.int .i64 ((rd_impl_Peg l0 x21_2).f0)) ∧ w'.cell? ⟨(ad372.add ((x21_2).toNat * 2)).block, (ad372.add ((x21_2).toNat * 2)).off + 1, none⟩ = some (.int .i64 ((rd_impl_Peg l0 x21_2).f1))) ∧ (w'.heap[gb366]? = some (.cells #[.int .i64 a1_0, .int .i64 a1_1] 50 (0, 0))) ∧ (w'.heap[s_.1]? = some (.cells #[.int .i64 0, .int .i64 0] 50 (0, 0))) ∧ (w'.heap[s_.2]? = some (.cells #[.int .i64 0, .int .i64 0] 50 (0, 0))) ∧ (w.heap.size ≤ s_.1) ∧ (w.heap.size ≤ s_.1) ∧ (gb366 ≠ s_.1) ∧ (s_.1 ≠ gb366) ∧ (s_.2 ≠ s_.1) ∧ (s_.1 ≠ s_.2) ∧ (w.heap.size ≤ s_.2) ∧ (w.heap.size ≤ s_.2) ∧ (gb366 ≠ s_.2) ∧ (s_.2 ≠ gb366) ∧ (Below w.heap.size w w')) ?_ ?_
                                                rotate_left
                                                ·intro hJ18_20
                                                 refine join_ (σ := Nat × Nat) 9 (bA 24 1668575) (fun s_ => [(9, .pointer (some ⟨s_.1, 0, none⟩)), (10, .pointer (some ⟨s_.2, 0, none⟩))]) (fun s_ w' => (w'.cell? ⟨gb366, 0, none⟩ = some (.int .i64 a1_0) ∧ w'.cell? ⟨gb366, 1, none⟩ = some (.int .i64 a1_1) ∧ w'.cell? (ad372.add ((x21_2).toNat * 2)) = some (.int .i64 ((rd_impl_Peg l0 x21_2).f0)) ∧ w'.cell? ⟨(ad372.add ((x21_2).toNat * 2)).block, (ad372.add ((x21_2).toNat * 2)).off + 1, none⟩ = some (.int .i64 ((rd_impl_Peg l0 x21_2).f1))) ∧ (w'.heap[gb366]? = some (.cells #[.int .i64 a1_0, .int .i64 a1_1] 50 (0, 0))) ∧ (w'.heap[s_.1]? = some (.cells #[.int .i64 0, .int .i64 0] 50 (0, 0))) ∧ (w'.heap[s_.2]? = some (.cells #[.int .i64 0, .int .i64 0] 50 (0, 0))) ∧ (w.heap.size ≤ s_.1) ∧ (w.heap.size ≤ s_.1) ∧ (gb366 ≠ s_.1) ∧ (s_.1 ≠ gb366) ∧ (s_.2 ≠ s_.1) ∧ (s_.1 ≠ s_.2) ∧ (w.heap.size ≤ s_.2) ∧ (w.heap.size ≤ s_.2) ∧ (gb366 ≠ s_.2) ∧ (s_.2 ≠ gb366) ∧ (Below w.heap.size w w')) ?_ ?_
                                                 rotate_left
                                                 ·intro hJ19_20
                                                  refine join_ (σ := Unit) 10 (bA 24 95743) (fun s_ => [(29, .agg #[.int .i64 t373, .int .i64 t374])]) (fun s_ w' => (w'.cell? ⟨gb366, 0, none⟩ = some (.int .i64 a1_0) ∧ w'.cell? ⟨gb366, 1, none⟩ = some (.int .i64 a1_1) ∧ w'.cell? (ad372.add ((x21_2).toNat * 2)) = some (.int .i64 ((rd_impl_Peg l0 x21_2).f0)) ∧ w'.cell? ⟨(ad372.add ((x21_2).toNat * 2)).block, (ad372.add ((x21_2).toNat * 2)).off + 1, none⟩ = some (.int .i64 ((rd_impl_Peg l0 x21_2).f1))) ∧ (w'.heap[gb366]? = some (.cells #[.int .i64 a1_0, .int .i64 a1_1] 50 (0, 0))) ∧ (Below w.heap.size w w')) ?_ ?_
                                                  rotate_left
                                                  ·intro hJ5
                                                   refine join_ (σ := Nat) 10 (bA 24 357855) (fun s_ => [(8, .pointer (some ⟨s_, 0, none⟩))]) (fun s_ w' => (w'.cell? ⟨gb366, 0, none⟩ = some (.int .i64 a1_0) ∧ w'.cell? ⟨gb366, 1, none⟩ = some (.int .i64 a1_1) ∧ w'.cell? (ad372.add ((x21_2).toNat * 2)) = some (.int .i64 ((rd_impl_Peg l0 x21_2).f0)) ∧ w'.cell? ⟨(ad372.add ((x21_2).toNat * 2)).block, (ad372.add ((x21_2).toNat * 2)).off + 1, none⟩ = some (.int .i64 ((rd_impl_Peg l0 x21_2).f1))) ∧ (w'.heap[gb366]? = some (.cells #[.int .i64 a1_0, .int .i64 a1_1] 50 (0, 0))) ∧ (w'.heap[s_]? = some (.cells #[.int .i64 0, .int .i64 0] 50 (0, 0))) ∧ (w.heap.size ≤ s_) ∧ (w.heap.size ≤ s_) ∧ (gb366 ≠ s_) ∧ (s_ ≠ gb366) ∧ (Below w.heap.size w w')) ?_ ?_
                                                   rotate_left
                                                   ·intro hJ18
                                                    refine join_ (σ := Nat) 10 (bA 24 619999) (fun s_ => [(9, .pointer (some ⟨s_, 0, none⟩))]) (fun s_ w' => (w'.cell? ⟨gb366, 0, none⟩ = some (.int .i64 a1_0) ∧ w'.cell? ⟨gb366, 1, none⟩ = some (.int .i64 a1_1) ∧ w'.cell? (ad372.add ((x21_2).toNat * 2)) = some (.int .i64 ((rd_impl_Peg l0 x21_2).f0)) ∧ w'.cell? ⟨(ad372.add ((x21_2).toNat * 2)).block, (ad372.add ((x21_2).toNat * 2)).off + 1, none⟩ = some (.int .i64 ((rd_impl_Peg l0 x21_2).f1))) ∧ (w'.heap[gb366]? = some (.cells #[.int .i64 a1_0, .int .i64 a1_1] 50 (0, 0))) ∧ (w'.heap[s_]? = some (.cells #[.int .i64 0, .int .i64 0] 50 (0, 0))) ∧ (w.heap.size ≤ s_) ∧ (w.heap.size ≤ s_) ∧ (gb366 ≠ s_) ∧ (s_ ≠ gb366) ∧ (Below w.heap.size w w')) ?_ ?_
                                                    rotate_left
                                                    ·intro hJ19
                                                     refine join_ (σ := Nat) 10 (bA 24 1144287) (fun s_ => [(10, .pointer (some ⟨s_, 0, none⟩))]) (fun s_ w' => (w'.cell? ⟨gb366, 0, none⟩ = some (.int .i64 a1_0) ∧ w'.cell? ⟨gb366, 1, none⟩ = some (.int .i64 a1_1) ∧ w'.cell? (ad372.add ((x21_2).toNat * 2)) = some (.int .i64 ((rd_impl_Peg l0 x21_2).f0)) ∧ w'.cell? ⟨(ad372.add ((x21_2).toNat * 2)).block, (ad372.add ((x21_2).toNat * 2)).off + 1, none⟩ = some (.int .i64 ((rd_impl_Peg l0 x21_2).f1))) ∧ (w'.heap[gb366]? = some (.cells #[.int .i64 a1_0, .int .i64 a1_1] 50 (0, 0))) ∧ (w'.heap[s_]? = some (.cells #[.int .i64 0, .int .i64 0] 50 (0, 0))) ∧ (w.heap.size ≤ s_) ∧ (w.heap.size ≤ s_) ∧ (gb366 ≠ s_) ∧ (s_ ≠ gb366) ∧ (Below w.heap.size w w')) ?_ ?_
                                                     rotate_left
                                                     ·intro hJ20
                                                      refine four_ (i := 5) (j := 18) (k := 19) (m := 20) (Ni := some 29) (Nj := some 8) (Nk := some 9) (Nm := some 10) (bA 24 95743) (bA 24 357855) (bA 24 619999) (bA 24 1144287) rfl rfl rfl rfl rfl rfl rfl rfl (four_of HT_.out kR) (by decide) (by decide) (by decide) (by decide) (fun K hK => ?_) (fun K hK => ?_) (fun K hK => ?_) (fun K hK => ?_)
                                                      ·skip
                                                       refine goes_ Try.func65 kR rfl #[.agg #[.int .i64 ((rd_impl_Peg l0 x21_2).f0), .int .i64 ((rd_impl_Peg l0 x21_2).f1)], .agg #[.int .i64 a1_0, .int .i64 a1_1]] (by rfl) rfl rfl sQ ?_
                                                       with_reducible refine (impl_Peg_less.calls ((rd_impl_Peg l0 x21_2).f0) ((rd_impl_Peg l0 x21_2).f1) a1_0 a1_1 t373 t374 _ A16.out).mono ?_
                                                       rintro e w24 ⟨rfl, hb⟩; refine ⟨_, rfl, ?_⟩; replace BK366 := bB BK366 hb; replace HB := tB HB hb; (try clear hb); (try clear hb2); (try clear hk); (try clear hi)
                                                       refine hK.out _ _ ⟨vZ0 BK366, vZ1 BK366, (hC HB hw372_0 :), (hC HB hw372_1 :)⟩ (fun hHeld => ?_)
                                                       clear hK K
                                                       refine nU ?_
                                                       exact norm_ (by first | (simp only [putAll, Act.put, sI, sZ, sS]; done) | (simp only [putAll, Act.put, sI, sZ, sS]; rfl)) (hJ5 () _ ⟨hHeld, (gQ BK366), bE⟩)
                                                      ·skip
                                                       refine box_step ?hg (N := 8) ?hd (cs := #[.int .i64 0, .int .i64 0]) (t := 50) ?hr ?_; (case hd => rfl); (case hg => rfl); (case hr => first | (go_simp; done) | (go_simp; rfl))
                                                       intro gb383 hg w24 hbox hb
                                                       have BK383 := aM (hbox); have GW383 := gZ HB hg; have GE383 := gZ HB hg; have NB366_383 := nG BK366 hg; have NB383_366 := nH BK366 hg; replace BK366 := bB BK366 hb; replace HB := tB HB hb; clear hb hbox hg
                                                       refine hK.out _ _ ⟨vZ0 BK366, vZ1 BK366, (hC HB hw372_0 :), (hC HB hw372_1 :)⟩ (fun hHeld => ?_)
                                                       clear hK K
                                                       refine nU ?_
                                                       exact norm_ (by first | (simp only [putAll, Act.put, sI, sZ, sS]; done) | (simp only [putAll, Act.put, sI, sZ, sS]; rfl)) (hJ18 (gb383) _ ⟨hHeld, (gQ BK366), (gQ BK383), GW383.out, GE383.out, NB366_383.out, NB383_366.out, bE⟩)
                                                      ·skip
                                                       refine box_step ?hg (N := 9) ?hd (cs := #[.int .i64 0, .int .i64 0]) (t := 50) ?hr ?_; (case hd => rfl); (case hg => rfl); (case hr => first | (go_simp; done) | (go_simp; rfl))
                                                       intro gb384 hg w24 hbox hb
                                                       have BK384 := aM (hbox); have GW384 := gZ HB hg; have GE384 := gZ HB hg; have NB366_384 := nG BK366 hg; have NB384_366 := nH BK366 hg; replace BK366 := bB BK366 hb; replace HB := tB HB hb; clear hb hbox hg
                                                       refine hK.out _ _ ⟨vZ0 BK366, vZ1 BK366, (hC HB hw372_0 :), (hC HB hw372_1 :)⟩ (fun hHeld => ?_)
                                                       clear hK K
                                                       refine nU ?_
                                                       exact norm_ (by first | (simp only [putAll, Act.put, sI, sZ, sS]; done) | (simp only [putAll, Act.put, sI, sZ, sS]; rfl)) (hJ19 (gb384) _ ⟨hHeld, (gQ BK366), (gQ BK384), GW384.out, GE384.out, NB366_384.out, NB384_366.out, bE⟩)
                                                      ·skip
                                                       refine box_step ?hg (N := 10) ?hd (cs := #[.int .i64 0, .int .i64 0]) (t := 50) ?hr ?_; (case hd => rfl); (case hg => rfl); (case hr => first | (go_simp; done) | (go_simp; rfl))
                                                       intro gb385 hg w24 hbox hb
                                                       have BK385 := aM (hbox); have GW385 := gZ HB hg; have GE385 := gZ HB hg; have NB366_385 := nG BK366 hg; have NB385_366 := nH BK366 hg; replace BK366 := bB BK366 hb; replace HB := tB HB hb; clear hb hbox hg
                                                       refine hK.out _ _ ⟨vZ0 BK366, vZ1 BK366, (hC HB hw372_0 :), (hC HB hw372_1 :)⟩ (fun hHeld => ?_)
                                                       clear hK K
                                                       refine nU ?_
                                                       exact norm_ (by first | (simp only [putAll, Act.put, sI, sZ, sS]; done) | (simp only [putAll, Act.put, sI, sZ, sS]; rfl)) (hJ20 (gb385) _ ⟨hHeld, (gQ BK366), (gQ BK385), GW385.out, GE385.out, NB366_385.out, NB385_366.out, bE⟩)
                                                     ·skip
                                                      rintro gb385 w25 ⟨hS_, h0_, h1_, h2_, h3_, h4_, h5_, h6_⟩; (try dsimp only at hS_ h0_ h1_ h2_ h3_ h4_ h5_ h6_); clear BK366 HB; have BK366 := aM h0_; have BK385 := aM h1_; have GW385 := aM h2_; have GE385 := aM h3_; have NB366_385 := aM h4_; have NB385_366 := aM h5_; have HB := aM h6_; clear h0_ h1_ h2_ h3_ h4_ h5_ h6_; have hHeld := hS_
                                                      refine norm_ (a' := ?_) ?_ ?_
                                                      rotate_left
                                                      ·simp only [putAll, Act.put, sI, sZ, sS]
                                                       rfl
                                                      refine three_ (i := 5) (j := 18) (k := 19) (Ni := some 29) (Nj := some 8) (Nk := some 9) (bA 24 1144319) (bA 24 1406431) (bA 24 1668575) rfl rfl rfl rfl rfl rfl (three_of HT_.out kR) (by decide) (by decide) (by decide) (fun K hK => ?_) (fun K hK => ?_) (fun K hK => ?_)
                                                      ·skip
                                                       refine goes_ Try.func65 kR rfl #[.agg #[.int .i64 ((rd_impl_Peg l0 x21_2).f0), .int .i64 ((rd_impl_Peg l0 x21_2).f1)], .agg #[.int .i64 a1_0, .int .i64 a1_1]] (by rfl) rfl rfl sQ ?_
                                                       with_reducible refine (impl_Peg_less.calls ((rd_impl_Peg l0 x21_2).f0) ((rd_impl_Peg l0 x21_2).f1) a1_0 a1_1 t373 t374 _ A16.out).mono ?_
                                                       rintro e w26 ⟨rfl, hb⟩; refine ⟨_, rfl, ?_⟩; replace BK366 := bB BK366 hb; replace BK385 := bB BK385 hb; replace HB := tB HB hb; (try clear hb); (try clear hb2); (try clear hk); (try clear hi)
                                                       refine hK.out _ _ ⟨vZ0 BK366, vZ1 BK366, (hC HB hw372_0 :), (hC HB hw372_1 :)⟩ (fun hHeld => ?_)
                                                       clear hK K
                                                       refine nU ?_
                                                       exact norm_ (by first | (simp only [putAll, Act.put, sI, sZ, sS]; done) | (simp only [putAll, Act.put, sI, sZ, sS]; rfl)) (hJ5_20 (gb385) _ ⟨hHeld, (gQ BK366), (gQ BK385), GW385.out, GE385.out, NB366_385.out, NB385_366.out, bE⟩)
                                                      ·skip
                                                       refine box_step ?hg (N := 8) ?hd (cs := #[.int .i64 0, .int .i64 0]) (t := 50) ?hr ?_; (case hd => rfl); (case hg => rfl); (case hr => first | (go_simp; done) | (go_simp; rfl))
                                                       intro gb383 hg w26 hbox hb
                                                       have BK383 := aM (hbox); have GW383 := gZ HB hg; have GE383 := gZ HB hg; have NB366_383 := nG BK366 hg; have NB383_366 := nH BK366 hg; have NB385_383 := nG BK385 hg; have NB383_385 := nH BK385 hg; replace BK366 := bB BK366 hb; replace BK385 := bB BK385 hb; replace HB := tB HB hb; clear hb hbox hg
                                                       refine hK.out _ _ ⟨vZ0 BK366, vZ1 BK366, (hC HB hw372_0 :), (hC HB hw372_1 :)⟩ (fun hHeld => ?_)
                                                       clear hK K
                                                       refine nU ?_
                                                       exact norm_ (by first | (simp only [putAll, Act.put, sI, sZ, sS]; done) | (simp only [putAll, Act.put, sI, sZ, sS]; rfl)) (hJ18_20 (gb383, gb385) _ ⟨hHeld, (gQ BK366), (gQ BK383), (gQ BK385), GW383.out, GE383.out, NB366_383.out, NB383_366.out, NB385_383.out, NB383_385.out, GW385.out, GE385.out, NB366_385.out, NB385_366.out, bE⟩)
                                                      ·skip
                                                       refine box_step ?hg (N := 9) ?hd (cs := #[.int .i64 0, .int .i64 0]) (t := 50) ?hr ?_; (case hd => rfl); (case hg => rfl); (case hr => first | (go_simp; done) | (go_simp; rfl))
                                                       intro gb384 hg w26 hbox hb
                                                       have BK384 := aM (hbox); have GW384 := gZ HB hg; have GE384 := gZ HB hg; have NB366_384 := nG BK366 hg; have NB384_366 := nH BK366 hg; have NB385_384 := nG BK385 hg; have NB384_385 := nH BK385 hg; replace BK366 := bB BK366 hb; replace BK385 := bB BK385 hb; replace HB := tB HB hb; clear hb hbox hg
                                                       refine hK.out _ _ ⟨vZ0 BK366, vZ1 BK366, (hC HB hw372_0 :), (hC HB hw372_1 :)⟩ (fun hHeld => ?_)
                                                       clear hK K
                                                       refine nU ?_
                                                       exact norm_ (by first | (simp only [putAll, Act.put, sI, sZ, sS]; done) | (simp only [putAll, Act.put, sI, sZ, sS]; rfl)) (hJ19_20 (gb384, gb385) _ ⟨hHeld, (gQ BK366), (gQ BK384), (gQ BK385), GW384.out, GE384.out, NB366_384.out, NB384_366.out, NB385_384.out, NB384_385.out, GW385.out, GE385.out, NB366_385.out, NB385_366.out, bE⟩)
                                                    ·skip
                                                     rintro gb384 w25 ⟨hS_, h0_, h1_, h2_, h3_, h4_, h5_, h6_⟩; (try dsimp only at hS_ h0_ h1_ h2_ h3_ h4_ h5_ h6_); clear BK366 HB; have BK366 := aM h0_; have BK384 := aM h1_; have GW384 := aM h2_; have GE384 := aM h3_; have NB366_384 := aM h4_; have NB384_366 := aM h5_; have HB := aM h6_; clear h0_ h1_ h2_ h3_ h4_ h5_ h6_; have hHeld := hS_
                                                     refine norm_ (a' := ?_) ?_ ?_
                                                     rotate_left
                                                     ·simp only [putAll, Act.put, sI, sZ, sS]
                                                      rfl
                                                     refine three_ (i := 5) (j := 18) (k := 20) (Ni := some 29) (Nj := some 8) (Nk := some 10) (bA 24 620031) (bA 24 882143) (bA 24 1668575) rfl rfl rfl rfl rfl rfl (three_of HT_.out kR) (by decide) (by decide) (by decide) (fun K hK => ?_) (fun K hK => ?_) (fun K hK => ?_)
                                                     ·skip
                                                      refine goes_ Try.func65 kR rfl #[.agg #[.int .i64 ((rd_impl_Peg l0 x21_2).f0), .int .i64 ((rd_impl_Peg l0 x21_2).f1)], .agg #[.int .i64 a1_0, .int .i64 a1_1]] (by rfl) rfl rfl sQ ?_
                                                      with_reducible refine (impl_Peg_less.calls ((rd_impl_Peg l0 x21_2).f0) ((rd_impl_Peg l0 x21_2).f1) a1_0 a1_1 t373 t374 _ A16.out).mono ?_
                                                      rintro e w26 ⟨rfl, hb⟩; refine ⟨_, rfl, ?_⟩; replace BK366 := bB BK366 hb; replace BK384 := bB BK384 hb; replace HB := tB HB hb; (try clear hb); (try clear hb2); (try clear hk); (try clear hi)
                                                      refine hK.out _ _ ⟨vZ0 BK366, vZ1 BK366, (hC HB hw372_0 :), (hC HB hw372_1 :)⟩ (fun hHeld => ?_)
                                                      clear hK K
                                                      refine nU ?_
                                                      exact norm_ (by first | (simp only [putAll, Act.put, sI, sZ, sS]; done) | (simp only [putAll, Act.put, sI, sZ, sS]; rfl)) (hJ5_19 (gb384) _ ⟨hHeld, (gQ BK366), (gQ BK384), GW384.out, GE384.out, NB366_384.out, NB384_366.out, bE⟩)
                                                     ·skip
                                                      refine box_step ?hg (N := 8) ?hd (cs := #[.int .i64 0, .int .i64 0]) (t := 50) ?hr ?_; (case hd => rfl); (case hg => rfl); (case hr => first | (go_simp; done) | (go_simp; rfl))
                                                      intro gb383 hg w26 hbox hb
                                                      have BK383 := aM (hbox); have GW383 := gZ HB hg; have GE383 := gZ HB hg; have NB366_383 := nG BK366 hg; have NB383_366 := nH BK366 hg; have NB384_383 := nG BK384 hg; have NB383_384 := nH BK384 hg; replace BK366 := bB BK366 hb; replace BK384 := bB BK384 hb; replace HB := tB HB hb; clear hb hbox hg
                                                      refine hK.out _ _ ⟨vZ0 BK366, vZ1 BK366, (hC HB hw372_0 :), (hC HB hw372_1 :)⟩ (fun hHeld => ?_)
                                                      clear hK K
                                                      refine nU ?_
                                                      exact norm_ (by first | (simp only [putAll, Act.put, sI, sZ, sS]; done) | (simp only [putAll, Act.put, sI, sZ, sS]; rfl)) (hJ18_19 (gb383, gb384) _ ⟨hHeld, (gQ BK366), (gQ BK383), (gQ BK384), GW383.out, GE383.out, NB366_383.out, NB383_366.out, NB384_383.out, NB383_384.out, GW384.out, GE384.out, NB366_384.out, NB384_366.out, bE⟩)
                                                     ·skip
                                                      refine box_step ?hg (N := 10) ?hd (cs := #[.int .i64 0, .int .i64 0]) (t := 50) ?hr ?_; (case hd => rfl); (case hg => rfl); (case hr => first | (go_simp; done) | (go_simp; rfl))
                                                      intro gb385 hg w26 hbox hb
                                                      have BK385 := aM (hbox); have GW385 := gZ HB hg; have GE385 := gZ HB hg; have NB366_385 := nG BK366 hg; have NB385_366 := nH BK366 hg; have NB384_385 := nG BK384 hg; have NB385_384 := nH BK384 hg; replace BK366 := bB BK366 hb; replace BK384 := bB BK384 hb; replace HB := tB HB hb; clear hb hbox hg
                                                      refine hK.out _ _ ⟨vZ0 BK366, vZ1 BK366, (hC HB hw372_0 :), (hC HB hw372_1 :)⟩ (fun hHeld => ?_)
                                                      clear hK K
                                                      refine nU ?_
                                                      exact norm_ (by first | (simp only [putAll, Act.put, sI, sZ, sS]; done) | (simp only [putAll, Act.put, sI, sZ, sS]; rfl)) (hJ19_20 (gb384, gb385) _ ⟨hHeld, (gQ BK366), (gQ BK384), (gQ BK385), GW384.out, GE384.out, NB366_384.out, NB384_366.out, NB385_384.out, NB384_385.out, GW385.out, GE385.out, NB366_385.out, NB385_366.out, bE⟩)
                                                   ·skip
                                                    rintro gb383 w25 ⟨hS_, h0_, h1_, h2_, h3_, h4_, h5_, h6_⟩; (try dsimp only at hS_ h0_ h1_ h2_ h3_ h4_ h5_ h6_); clear BK366 HB; have BK366 := aM h0_; have BK383 := aM h1_; have GW383 := aM h2_; have GE383 := aM h3_; have NB366_383 := aM h4_; have NB383_366 := aM h5_; have HB := aM h6_; clear h0_ h1_ h2_ h3_ h4_ h5_ h6_; have hHeld := hS_
                                                    refine norm_ (a' := ?_) ?_ ?_
                                                    rotate_left
                                                    ·simp only [putAll, Act.put, sI, sZ, sS]
                                                     rfl
                                                    refine three_ (i := 5) (j := 19) (k := 20) (Ni := some 29) (Nj := some 9) (Nk := some 10) (bA 24 357887) (bA 24 882143) (bA 24 1406431) rfl rfl rfl rfl rfl rfl (three_of HT_.out kR) (by decide) (by decide) (by decide) (fun K hK => ?_) (fun K hK => ?_) (fun K hK => ?_)
                                                    ·skip
                                                     refine goes_ Try.func65 kR rfl #[.agg #[.int .i64 ((rd_impl_Peg l0 x21_2).f0), .int .i64 ((rd_impl_Peg l0 x21_2).f1)], .agg #[.int .i64 a1_0, .int .i64 a1_1]] (by rfl) rfl rfl sQ ?_
                                                     with_reducible refine (impl_Peg_less.calls ((rd_impl_Peg l0 x21_2).f0) ((rd_impl_Peg l0 x21_2).f1) a1_0 a1_1 t373 t374 _ A16.out).mono ?_
                                                     rintro e w26 ⟨rfl, hb⟩; refine ⟨_, rfl, ?_⟩; replace BK366 := bB BK366 hb; replace BK383 := bB BK383 hb; replace HB := tB HB hb; (try clear hb); (try clear hb2); (try clear hk); (try clear hi)
                                                     refine hK.out _ _ ⟨vZ0 BK366, vZ1 BK366, (hC HB hw372_0 :), (hC HB hw372_1 :)⟩ (fun hHeld => ?_)
                                                     clear hK K
                                                     refine nU ?_
                                                     exact norm_ (by first | (simp only [putAll, Act.put, sI, sZ, sS]; done) | (simp only [putAll, Act.put, sI, sZ, sS]; rfl)) (hJ5_18 (gb383) _ ⟨hHeld, (gQ BK366), (gQ BK383), GW383.out, GE383.out, NB366_383.out, NB383_366.out, bE⟩)
                                                    ·skip
                                                     refine box_step ?hg (N := 9) ?hd (cs := #[.int .i64 0, .int .i64 0]) (t := 50) ?hr ?_; (case hd => rfl); (case hg => rfl); (case hr => first | (go_simp; done) | (go_simp; rfl))
                                                     intro gb384 hg w26 hbox hb
                                                     have BK384 := aM (hbox); have GW384 := gZ HB hg; have GE384 := gZ HB hg; have NB366_384 := nG BK366 hg; have NB384_366 := nH BK366 hg; have NB383_384 := nG BK383 hg; have NB384_383 := nH BK383 hg; replace BK366 := bB BK366 hb; replace BK383 := bB BK383 hb; replace HB := tB HB hb; clear hb hbox hg
                                                     refine hK.out _ _ ⟨vZ0 BK366, vZ1 BK366, (hC HB hw372_0 :), (hC HB hw372_1 :)⟩ (fun hHeld => ?_)
                                                     clear hK K
                                                     refine nU ?_
                                                     exact norm_ (by first | (simp only [putAll, Act.put, sI, sZ, sS]; done) | (simp only [putAll, Act.put, sI, sZ, sS]; rfl)) (hJ18_19 (gb383, gb384) _ ⟨hHeld, (gQ BK366), (gQ BK383), (gQ BK384), GW383.out, GE383.out, NB366_383.out, NB383_366.out, NB384_383.out, NB383_384.out, GW384.out, GE384.out, NB366_384.out, NB384_366.out, bE⟩)
                                                    ·skip
                                                     refine box_step ?hg (N := 10) ?hd (cs := #[.int .i64 0, .int .i64 0]) (t := 50) ?hr ?_; (case hd => rfl); (case hg => rfl); (case hr => first | (go_simp; done) | (go_simp; rfl))
                                                     intro gb385 hg w26 hbox hb
                                                     have BK385 := aM (hbox); have GW385 := gZ HB hg; have GE385 := gZ HB hg; have NB366_385 := nG BK366 hg; have NB385_366 := nH BK366 hg; have NB383_385 := nG BK383 hg; have NB385_383 := nH BK383 hg; replace BK366 := bB BK366 hb; replace BK383 := bB BK383 hb; replace HB := tB HB hb; clear hb hbox hg
                                                     refine hK.out _ _ ⟨vZ0 BK366, vZ1 BK366, (hC HB hw372_0 :), (hC HB hw372_1 :)⟩ (fun hHeld => ?_)
                                                     clear hK K
                                                     refine nU ?_
                                                     exact norm_ (by first | (simp only [putAll, Act.put, sI, sZ, sS]; done) | (simp only [putAll, Act.put, sI, sZ, sS]; rfl)) (hJ18_20 (gb383, gb385) _ ⟨hHeld, (gQ BK366), (gQ BK383), (gQ BK385), GW383.out, GE383.out, NB366_383.out, NB383_366.out, NB385_383.out, NB383_385.out, GW385.out, GE385.out, NB366_385.out, NB385_366.out, bE⟩)
                                                  ·skip
                                                   rintro _ w25 ⟨hS_, h0_, h1_⟩; (try dsimp only at hS_ h0_ h1_); clear BK366 HB; have BK366 := aM h0_; have HB := aM h1_; clear h0_ h1_; have hHeld := hS_
                                                   refine norm_ (a' := ?_) ?_ ?_
                                                   rotate_left
                                                   ·simp only [putAll, Act.put, sI, sZ, sS]
                                                    rfl
                                                   refine four_ (i := 9) (j := 18) (k := 19) (m := 20) (Ni := some 33) (Nj := some 8) (Nk := some 9) (Nm := some 10) (bA 24 96255) (bA 24 357887) (bA 24 620031) (bA 24 1144319) rfl rfl rfl rfl rfl rfl rfl rfl (four_of HT_.out kR) (by decide) (by decide) (by decide) (by decide) (fun K hK => ?_) (fun K hK => ?_) (fun K hK => ?_) (fun K hK => ?_)
                                                   ·skip
                                                    refine goes_ Try.func106 kR rfl #[.slice (some ad372) l0.length c0, .int .i64 (wrap64 (x21_2 + 1))] (by rfl) rfl rfl sQ ?_
                                                    with_reducible refine (impl_at.calls _ _ l0 (wrap64 (x21_2 + 1)) t375 t376 _ ?side1 ?side2 A17.out).mono ?_
                                                    (case side1 => repeat (first | exact (Kd.C_below HR0.out HB.out) | (with_reducible refine cA ?_ _) | (with_reducible refine cN ?_ _) | (with_reducible refine cD ?_)))
                                                    (case side2 => exact HC0.out)
                                                    rintro e w26 ⟨rfl, hb⟩; refine ⟨_, rfl, ?_⟩; replace BK366 := bB BK366 hb; replace HB := tB HB hb; (try clear hb); (try clear hb2); (try clear hk); (try clear hi)
                                                    refine hK.out _ _ ⟨vZ0 BK366, vZ1 BK366, (hC HB hw372_0 :), (hC HB hw372_1 :)⟩ (fun hHeld => ?_)
                                                    clear hK K
                                                    refine nU ?_
                                                    exact norm_ (by first | (simp only [putAll, Act.put, sI, sZ, sS]; done) | (simp only [putAll, Act.put, sI, sZ, sS]; rfl)) (hJ5_9 () _ ⟨hHeld, (gQ BK366), bE⟩)
                                                   ·skip
                                                    refine box_step ?hg (N := 8) ?hd (cs := #[.int .i64 0, .int .i64 0]) (t := 50) ?hr ?_; (case hd => rfl); (case hg => rfl); (case hr => first | (go_simp; done) | (go_simp; rfl))
                                                    intro gb383 hg w26 hbox hb
                                                    have BK383 := aM (hbox); have GW383 := gZ HB hg; have GE383 := gZ HB hg; have NB366_383 := nG BK366 hg; have NB383_366 := nH BK366 hg; replace BK366 := bB BK366 hb; replace HB := tB HB hb; clear hb hbox hg
                                                    refine hK.out _ _ ⟨vZ0 BK366, vZ1 BK366, (hC HB hw372_0 :), (hC HB hw372_1 :)⟩ (fun hHeld => ?_)
                                                    clear hK K
                                                    refine nU ?_
                                                    exact norm_ (by first | (simp only [putAll, Act.put, sI, sZ, sS]; done) | (simp only [putAll, Act.put, sI, sZ, sS]; rfl)) (hJ5_18 (gb383) _ ⟨hHeld, (gQ BK366), (gQ BK383), GW383.out, GE383.out, NB366_383.out, NB383_366.out, bE⟩)
                                                   ·skip
                                                    refine box_step ?hg (N := 9) ?hd (cs := #[.int .i64 0, .int .i64 0]) (t := 50) ?hr ?_; (case hd => rfl); (case hg => rfl); (case hr => first | (go_simp; done) | (go_simp; rfl))
                                                    intro gb384 hg w26 hbox hb
                                                    have BK384 := aM (hbox); have GW384 := gZ HB hg; have GE384 := gZ HB hg; have NB366_384 := nG BK366 hg; have NB384_366 := nH BK366 hg; replace BK366 := bB BK366 hb; replace HB := tB HB hb; clear hb hbox hg
                                                    refine hK.out _ _ ⟨vZ0 BK366, vZ1 BK366, (hC HB hw372_0 :), (hC HB hw372_1 :)⟩ (fun hHeld => ?_)
                                                    clear hK K
                                                    refine nU ?_
                                                    exact norm_ (by first | (simp only [putAll, Act.put, sI, sZ, sS]; done) | (simp only [putAll, Act.put, sI, sZ, sS]; rfl)) (hJ5_19 (gb384) _ ⟨hHeld, (gQ BK366), (gQ BK384), GW384.out, GE384.out, NB366_384.out, NB384_366.out, bE⟩)
                                                   ·skip
                                                    refine box_step ?hg (N := 10) ?hd (cs := #[.int .i64 0, .int .i64 0]) (t := 50) ?hr ?_; (case hd => rfl); (case hg => rfl); (case hr => first | (go_simp; done) | (go_simp; rfl))
                                                    intro gb385 hg w26 hbox hb
                                                    have BK385 := aM (hbox); have GW385 := gZ HB hg; have GE385 := gZ HB hg; have NB366_385 := nG BK366 hg; have NB385_366 := nH BK366 hg; replace BK366 := bB BK366 hb; replace HB := tB HB hb; clear hb hbox hg
                                                    refine hK.out _ _ ⟨vZ0 BK366, vZ1 BK366, (hC HB hw372_0 :), (hC HB hw372_1 :)⟩ (fun hHeld => ?_)
                                                    clear hK K
                                                    refine nU ?_
                                                    exact norm_ (by first | (simp only [putAll, Act.put, sI, sZ, sS]; done) | (simp only [putAll, Act.put, sI, sZ, sS]; rfl)) (hJ5_20 (gb385) _ ⟨hHeld, (gQ BK366), (gQ BK385), GW385.out, GE385.out, NB366_385.out, NB385_366.out, bE⟩)
                                                 ·skip
                                                  rintro ⟨gb384, gb385⟩ w26 ⟨hS_, h0_, h1_, h2_, h3_, h4_, h5_, h6_, h7_, h8_, h9_, h10_, h11_, h12_, h13_⟩; (try dsimp only at hS_ h0_ h1_ h2_ h3_ h4_ h5_ h6_ h7_ h8_ h9_ h10_ h11_ h12_ h13_); clear BK366 HB; have BK366 := aM h0_; have BK384 := aM h1_; have BK385 := aM h2_; have GW384 := aM h3_; have GE384 := aM h4_; have NB366_384 := aM h5_; have NB384_366 := aM h6_; have NB385_384 := aM h7_; have NB384_385 := aM h8_; have GW385 := aM h9_; have GE385 := aM h10_; have NB366_385 := aM h11_; have NB385_366 := aM h12_; have HB := aM h13_; clear h0_ h1_ h2_ h3_ h4_ h5_ h6_ h7_ h8_ h9_ h10_ h11_ h12_ h13_; have hHeld := hS_
                                                  refine norm_ (a' := ?_) ?_ ?_
                                                  rotate_left
                                                  ·simp only [putAll, Act.put, sI, sZ, sS]
                                                   rfl
                                                  refine two_ (i := 5) (j := 18) (Ni := some 29) (Nj := some 8) (bA 24 1668607) (bA 24 1930719) rfl rfl rfl rfl (two_of HT_.out kR) (by decide) (by decide) (fun K hK => ?_) (fun K hK => ?_)
                                                  ·skip
                                                   refine goes_ Try.func65 kR rfl #[.agg #[.int .i64 ((rd_impl_Peg l0 x21_2).f0), .int .i64 ((rd_impl_Peg l0 x21_2).f1)], .agg #[.int .i64 a1_0, .int .i64 a1_1]] (by rfl) rfl rfl sQ ?_
                                                   with_reducible refine (impl_Peg_less.calls ((rd_impl_Peg l0 x21_2).f0) ((rd_impl_Peg l0 x21_2).f1) a1_0 a1_1 t373 t374 _ A16.out).mono ?_
                                                   rintro e w27 ⟨rfl, hb⟩; refine ⟨_, rfl, ?_⟩; replace BK366 := bB BK366 hb; replace BK384 := bB BK384 hb; replace BK385 := bB BK385 hb; replace HB := tB HB hb; (try clear hb); (try clear hb2); (try clear hk); (try clear hi)
                                                   refine hK.out _ _ ⟨vZ0 BK366, vZ1 BK366, (hC HB hw372_0 :), (hC HB hw372_1 :)⟩ (fun hHeld => ?_)
                                                   clear hK K
                                                   refine nU ?_
                                                   exact norm_ (by first | (simp only [putAll, Act.put, sI, sZ, sS]; done) | (simp only [putAll, Act.put, sI, sZ, sS]; rfl)) (hJ5_19_20 (gb384, gb385) _ ⟨hHeld, (gQ BK366), (gQ BK384), (gQ BK385), GW384.out, GE384.out, NB366_384.out, NB384_366.out, NB385_384.out, NB384_385.out, GW385.out, GE385.out, NB366_385.out, NB385_366.out, bE⟩)
                                                  ·skip
                                                   refine box_step ?hg (N := 8) ?hd (cs := #[.int .i64 0, .int .i64 0]) (t := 50) ?hr ?_; (case hd => rfl); (case hg => rfl); (case hr => first | (go_simp; done) | (go_simp; rfl))
                                                   intro gb383 hg w27 hbox hb
                                                   have BK383 := aM (hbox); have GW383 := gZ HB hg; have GE383 := gZ HB hg; have NB366_383 := nG BK366 hg; have NB383_366 := nH BK366 hg; have NB384_383 := nG BK384 hg; have NB383_384 := nH BK384 hg; have NB385_383 := nG BK385 hg; have NB383_385 := nH BK385 hg; replace BK366 := bB BK366 hb; replace BK384 := bB BK384 hb; replace BK385 := bB BK385 hb; replace HB := tB HB hb; clear hb hbox hg
                                                   refine hK.out _ _ ⟨vZ0 BK366, vZ1 BK366, (hC HB hw372_0 :), (hC HB hw372_1 :)⟩ (fun hHeld => ?_)
                                                   clear hK K
                                                   refine nU ?_
                                                   exact norm_ (by first | (simp only [putAll, Act.put, sI, sZ, sS]; done) | (simp only [putAll, Act.put, sI, sZ, sS]; rfl)) (hJ18_19_20 (gb383, gb384, gb385) _ ⟨hHeld, (gQ BK366), (gQ BK383), (gQ BK384), (gQ BK385), GW383.out, GE383.out, NB366_383.out, NB383_366.out, NB384_383.out, NB383_384.out, NB385_383.out, NB383_385.out, GW384.out, GE384.out, NB366_384.out, NB384_366.out, NB385_384.out, NB384_385.out, GW385.out, GE385.out, NB366_385.out, NB385_366.out, bE⟩)
                                                ·skip
                                                 rintro ⟨gb383, gb385⟩ w26 ⟨hS_, h0_, h1_, h2_, h3_, h4_, h5_, h6_, h7_, h8_, h9_, h10_, h11_, h12_, h13_⟩; (try dsimp only at hS_ h0_ h1_ h2_ h3_ h4_ h5_ h6_ h7_ h8_ h9_ h10_ h11_ h12_ h13_); clear BK366 HB; have BK366 := aM h0_; have BK383 := aM h1_; have BK385 := aM h2_; have GW383 := aM h3_; have GE383 := aM h4_; have NB366_383 := aM h5_; have NB383_366 := aM h6_; have NB385_383 := aM h7_; have NB383_385 := aM h8_; have GW385 := aM h9_; have GE385 := aM h10_; have NB366_385 := aM h11_; have NB385_366 := aM h12_; have HB := aM h13_; clear h0_ h1_ h2_ h3_ h4_ h5_ h6_ h7_ h8_ h9_ h10_ h11_ h12_ h13_; have hHeld := hS_
                                                 refine norm_ (a' := ?_) ?_ ?_
                                                 rotate_left
                                                 ·simp only [putAll, Act.put, sI, sZ, sS]
                                                  rfl
                                                 refine two_ (i := 5) (j := 19) (Ni := some 29) (Nj := some 9) (bA 24 1406463) (bA 24 1930719) rfl rfl rfl rfl (two_of HT_.out kR) (by decide) (by decide) (fun K hK => ?_) (fun K hK => ?_)
                                                 ·skip
                                                  refine goes_ Try.func65 kR rfl #[.agg #[.int .i64 ((rd_impl_Peg l0 x21_2).f0), .int .i64 ((rd_impl_Peg l0 x21_2).f1)], .agg #[.int .i64 a1_0, .int .i64 a1_1]] (by rfl) rfl rfl sQ ?_
                                                  with_reducible refine (impl_Peg_less.calls ((rd_impl_Peg l0 x21_2).f0) ((rd_impl_Peg l0 x21_2).f1) a1_0 a1_1 t373 t374 _ A16.out).mono ?_
                                                  rintro e w27 ⟨rfl, hb⟩; refine ⟨_, rfl, ?_⟩; replace BK366 := bB BK366 hb; replace BK383 := bB BK383 hb; replace BK385 := bB BK385 hb; replace HB := tB HB hb; (try clear hb); (try clear hb2); (try clear hk); (try clear hi)
                                                  refine hK.out _ _ ⟨vZ0 BK366, vZ1 BK366, (hC HB hw372_0 :), (hC HB hw372_1 :)⟩ (fun hHeld => ?_)
                                                  clear hK K
                                                  refine nU ?_
                                                  exact norm_ (by first | (simp only [putAll, Act.put, sI, sZ, sS]; done) | (simp only [putAll, Act.put, sI, sZ, sS]; rfl)) (hJ5_18_20 (gb383, gb385) _ ⟨hHeld, (gQ BK366), (gQ BK383), (gQ BK385), GW383.out, GE383.out, NB366_383.out, NB383_366.out, NB385_383.out, NB383_385.out, GW385.out, GE385.out, NB366_385.out, NB385_366.out, bE⟩)
                                                 ·skip
                                                  refine box_step ?hg (N := 9) ?hd (cs := #[.int .i64 0, .int .i64 0]) (t := 50) ?hr ?_; (case hd => rfl); (case hg => rfl); (case hr => first | (go_simp; done) | (go_simp; rfl))
                                                  intro gb384 hg w27 hbox hb
                                                  have BK384 := aM (hbox); have GW384 := gZ HB hg; have GE384 := gZ HB hg; have NB366_384 := nG BK366 hg; have NB384_366 := nH BK366 hg; have NB383_384 := nG BK383 hg; have NB384_383 := nH BK383 hg; have NB385_384 := nG BK385 hg; have NB384_385 := nH BK385 hg; replace BK366 := bB BK366 hb; replace BK383 := bB BK383 hb; replace BK385 := bB BK385 hb; replace HB := tB HB hb; clear hb hbox hg
                                                  refine hK.out _ _ ⟨vZ0 BK366, vZ1 BK366, (hC HB hw372_0 :), (hC HB hw372_1 :)⟩ (fun hHeld => ?_)
                                                  clear hK K
                                                  refine nU ?_
                                                  exact norm_ (by first | (simp only [putAll, Act.put, sI, sZ, sS]; done) | (simp only [putAll, Act.put, sI, sZ, sS]; rfl)) (hJ18_19_20 (gb383, gb384, gb385) _ ⟨hHeld, (gQ BK366), (gQ BK383), (gQ BK384), (gQ BK385), GW383.out, GE383.out, NB366_383.out, NB383_366.out, NB384_383.out, NB383_384.out, NB385_383.out, NB383_385.out, GW384.out, GE384.out, NB366_384.out, NB384_366.out, NB385_384.out, NB384_385.out, GW385.out, GE385.out, NB366_385.out, NB385_366.out, bE⟩)
                                               ·skip
                                                rintro ⟨gb383, gb384⟩ w26 ⟨hS_, h0_, h1_, h2_, h3_, h4_, h5_, h6_, h7_, h8_, h9_, h10_, h11_, h12_, h13_⟩; (try dsimp only at hS_ h0_ h1_ h2_ h3_ h4_ h5_ h6_ h7_ h8_ h9_ h10_ h11_ h12_ h13_); clear BK366 HB; have BK366 := aM h0_; have BK383 := aM h1_; have BK384 := aM h2_; have GW383 := aM h3_; have GE383 := aM h4_; have NB366_383 := aM h5_; have NB383_366 := aM h6_; have NB384_383 := aM h7_; have NB383_384 := aM h8_; have GW384 := aM h9_; have GE384 := aM h10_; have NB366_384 := aM h11_; have NB384_366 := aM h12_; have HB := aM h13_; clear h0_ h1_ h2_ h3_ h4_ h5_ h6_ h7_ h8_ h9_ h10_ h11_ h12_ h13_; have hHeld := hS_
                                                refine norm_ (a' := ?_) ?_ ?_
                                                rotate_left
                                                ·simp only [putAll, Act.put, sI, sZ, sS]
                                                 rfl
                                                refine two_ (i := 5) (j := 20) (Ni := some 29) (Nj := some 10) (bA 24 882175) (bA 24 1930719) rfl rfl rfl rfl (two_of HT_.out kR) (by decide) (by decide) (fun K hK => ?_) (fun K hK => ?_)
                                                ·skip
                                                 refine goes_ Try.func65 kR rfl #[.agg #[.int .i64 ((rd_impl_Peg l0 x21_2).f0), .int .i64 ((rd_impl_Peg l0 x21_2).f1)], .agg #[.int .i64 a1_0, .int .i64 a1_1]] (by rfl) rfl rfl sQ ?_
                                                 with_reducible refine (impl_Peg_less.calls ((rd_impl_Peg l0 x21_2).f0) ((rd_impl_Peg l0 x21_2).f1) a1_0 a1_1 t373 t374 _ A16.out).mono ?_
                                                 rintro e w27 ⟨rfl, hb⟩; refine ⟨_, rfl, ?_⟩; replace BK366 := bB BK366 hb; replace BK383 := bB BK383 hb; replace BK384 := bB BK384 hb; replace HB := tB HB hb; (try clear hb); (try clear hb2); (try clear hk); (try clear hi)
                                                 refine hK.out _ _ ⟨vZ0 BK366, vZ1 BK366, (hC HB hw372_0 :), (hC HB hw372_1 :)⟩ (fun hHeld => ?_)
                                                 clear hK K
                                                 refine nU ?_
                                                 exact norm_ (by first | (simp only [putAll, Act.put, sI, sZ, sS]; done) | (simp only [putAll, Act.put, sI, sZ, sS]; rfl)) (hJ5_18_19 (gb383, gb384) _ ⟨hHeld, (gQ BK366), (gQ BK383), (gQ BK384), GW383.out, GE383.out, NB366_383.out, NB383_366.out, NB384_383.out, NB383_384.out, GW384.out, GE384.out, NB366_384.out, NB384_366.out, bE⟩)
                                                ·skip
                                                 refine box_step ?hg (N := 10) ?hd (cs := #[.int .i64 0, .int .i64 0]) (t := 50) ?hr ?_; (case hd => rfl); (case hg => rfl); (case hr => first | (go_simp; done) | (go_simp; rfl))
                                                 intro gb385 hg w27 hbox hb
                                                 have BK385 := aM (hbox); have GW385 := gZ HB hg; have GE385 := gZ HB hg; have NB366_385 := nG BK366 hg; have NB385_366 := nH BK366 hg; have NB383_385 := nG BK383 hg; have NB385_383 := nH BK383 hg; have NB384_385 := nG BK384 hg; have NB385_384 := nH BK384 hg; replace BK366 := bB BK366 hb; replace BK383 := bB BK383 hb; replace BK384 := bB BK384 hb; replace HB := tB HB hb; clear hb hbox hg
                                                 refine hK.out _ _ ⟨vZ0 BK366, vZ1 BK366, (hC HB hw372_0 :), (hC HB hw372_1 :)⟩ (fun hHeld => ?_)
                                                 clear hK K
                                                 refine nU ?_
                                                 exact norm_ (by first | (simp only [putAll, Act.put, sI, sZ, sS]; done) | (simp only [putAll, Act.put, sI, sZ, sS]; rfl)) (hJ18_19_20 (gb383, gb384, gb385) _ ⟨hHeld, (gQ BK366), (gQ BK383), (gQ BK384), (gQ BK385), GW383.out, GE383.out, NB366_383.out, NB383_366.out, NB384_383.out, NB383_384.out, NB385_383.out, NB383_385.out, GW384.out, GE384.out, NB366_384.out, NB384_366.out, NB385_384.out, NB384_385.out, GW385.out, GE385.out, NB366_385.out, NB385_366.out, bE⟩)
                                              ·skip
                                               rintro gb385 w26 ⟨hS_, h0_, h1_, h2_, h3_, h4_, h5_, h6_⟩; (try dsimp only at hS_ h0_ h1_ h2_ h3_ h4_ h5_ h6_); clear BK366 HB; have BK366 := aM h0_; have BK385 := aM h1_; have GW385 := aM h2_; have GE385 := aM h3_; have NB366_385 := aM h4_; have NB385_366 := aM h5_; have HB := aM h6_; clear h0_ h1_ h2_ h3_ h4_ h5_ h6_; have hHeld := hS_
                                               refine norm_ (a' := ?_) ?_ ?_
                                               rotate_left
                                               ·simp only [putAll, Act.put, sI, sZ, sS]
                                                rfl
                                               refine three_ (i := 9) (j := 18) (k := 19) (Ni := some 33) (Nj := some 8) (Nk := some 9) (bA 24 1144831) (bA 24 1406463) (bA 24 1668607) rfl rfl rfl rfl rfl rfl (three_of HT_.out kR) (by decide) (by decide) (by decide) (fun K hK => ?_) (fun K hK => ?_) (fun K hK => ?_)
                                               ·skip
                                                refine goes_ Try.func106 kR rfl #[.slice (some ad372) l0.length c0, .int .i64 (wrap64 (x21_2 + 1))] (by rfl) rfl rfl sQ ?_
                                                with_reducible refine (impl_at.calls _ _ l0 (wrap64 (x21_2 + 1)) t375 t376 _ ?side1 ?side2 A17.out).mono ?_
                                                (case side1 => repeat (first | exact (Kd.C_below HR0.out HB.out) | (with_reducible refine cA ?_ _) | (with_reducible refine cN ?_ _) | (with_reducible refine cD ?_)))
                                                (case side2 => exact HC0.out)
                                                rintro e w27 ⟨rfl, hb⟩; refine ⟨_, rfl, ?_⟩; replace BK366 := bB BK366 hb; replace BK385 := bB BK385 hb; replace HB := tB HB hb; (try clear hb); (try clear hb2); (try clear hk); (try clear hi)
                                                refine hK.out _ _ ⟨vZ0 BK366, vZ1 BK366, (hC HB hw372_0 :), (hC HB hw372_1 :)⟩ (fun hHeld => ?_)
                                                clear hK K
                                                refine nU ?_
                                                exact norm_ (by first | (simp only [putAll, Act.put, sI, sZ, sS]; done) | (simp only [putAll, Act.put, sI, sZ, sS]; rfl)) (hJ5_9_20 (gb385) _ ⟨hHeld, (gQ BK366), (gQ BK385), GW385.out, GE385.out, NB366_385.out, NB385_366.out, bE⟩)
                                               ·skip
                                                refine box_step ?hg (N := 8) ?hd (cs := #[.int .i64 0, .int .i64 0]) (t := 50) ?hr ?_; (case hd => rfl); (case hg => rfl); (case hr => first | (go_simp; done) | (go_simp; rfl))
                                                intro gb383 hg w27 hbox hb
                                                have BK383 := aM (hbox); have GW383 := gZ HB hg; have GE383 := gZ HB hg; have NB366_383 := nG BK366 hg; have NB383_366 := nH BK366 hg; have NB385_383 := nG BK385 hg; have NB383_385 := nH BK385 hg; replace BK366 := bB BK366 hb; replace BK385 := bB BK385 hb; replace HB := tB HB hb; clear hb hbox hg
                                                refine hK.out _ _ ⟨vZ0 BK366, vZ1 BK366, (hC HB hw372_0 :), (hC HB hw372_1 :)⟩ (fun hHeld => ?_)
                                                clear hK K
                                                refine nU ?_
                                                exact norm_ (by first | (simp only [putAll, Act.put, sI, sZ, sS]; done) | (simp only [putAll, Act.put, sI, sZ, sS]; rfl)) (hJ5_18_20 (gb383, gb385) _ ⟨hHeld, (gQ BK366), (gQ BK383), (gQ BK385), GW383.out, GE383.out, NB366_383.out, NB383_366.out, NB385_383.out, NB383_385.out, GW385.out, GE385.out, NB366_385.out, NB385_366.out, bE⟩)
                                               ·skip
                                                refine box_step ?hg (N := 9) ?hd (cs := #[.int .i64 0, .int .i64 0]) (t := 50) ?hr ?_; (case hd => rfl); (case hg => rfl); (case hr => first | (go_simp; done) | (go_simp; rfl))
                                                intro gb384 hg w27 hbox hb
                                                have BK384 := aM (hbox); have GW384 := gZ HB hg; have GE384 := gZ HB hg; have NB366_384 := nG BK366 hg; have NB384_366 := nH BK366 hg; have NB385_384 := nG BK385 hg; have NB384_385 := nH BK385 hg; replace BK366 := bB BK366 hb; replace BK385 := bB BK385 hb; replace HB := tB HB hb; clear hb hbox hg
                                                refine hK.out _ _ ⟨vZ0 BK366, vZ1 BK366, (hC HB hw372_0 :), (hC HB hw372_1 :)⟩ (fun hHeld => ?_)
                                                clear hK K
                                                refine nU ?_
                                                exact norm_ (by first | (simp only [putAll, Act.put, sI, sZ, sS]; done) | (simp only [putAll, Act.put, sI, sZ, sS]; rfl)) (hJ5_19_20 (gb384, gb385) _ ⟨hHeld, (gQ BK366), (gQ BK384), (gQ BK385), GW384.out, GE384.out, NB366_384.out, NB384_366.out, NB385_384.out, NB384_385.out, GW385.out, GE385.out, NB366_385.out, NB385_366.out, bE⟩)
                                             ·skip
                                              rintro gb384 w26 ⟨hS_, h0_, h1_, h2_, h3_, h4_, h5_, h6_⟩; (try dsimp only at hS_ h0_ h1_ h2_ h3_ h4_ h5_ h6_); clear BK366 HB; have BK366 := aM h0_; have BK384 := aM h1_; have GW384 := aM h2_; have GE384 := aM h3_; have NB366_384 := aM h4_; have NB384_366 := aM h5_; have HB := aM h6_; clear h0_ h1_ h2_ h3_ h4_ h5_ h6_; have hHeld := hS_
                                              refine norm_ (a' := ?_) ?_ ?_
                                              rotate_left
                                              ·simp only [putAll, Act.put, sI, sZ, sS]
                                               rfl
                                              refine three_ (i := 9) (j := 18) (k := 20) (Ni := some 33) (Nj := some 8) (Nk := some 10) (bA 24 620543) (bA 24 882175) (bA 24 1668607) rfl rfl rfl rfl rfl rfl (three_of HT_.out kR) (by decide) (by decide) (by decide) (fun K hK => ?_) (fun K hK => ?_) (fun K hK => ?_)
                                              ·skip
                                               refine goes_ Try.func106 kR rfl #[.slice (some ad372) l0.length c0, .int .i64 (wrap64 (x21_2 + 1))] (by rfl) rfl rfl sQ ?_
                                               with_reducible refine (impl_at.calls _ _ l0 (wrap64 (x21_2 + 1)) t375 t376 _ ?side1 ?side2 A17.out).mono ?_
                                               (case side1 => repeat (first | exact (Kd.C_below HR0.out HB.out) | (with_reducible refine cA ?_ _) | (with_reducible refine cN ?_ _) | (with_reducible refine cD ?_)))
                                               (case side2 => exact HC0.out)
                                               rintro e w27 ⟨rfl, hb⟩; refine ⟨_, rfl, ?_⟩; replace BK366 := bB BK366 hb; replace BK384 := bB BK384 hb; replace HB := tB HB hb; (try clear hb); (try clear hb2); (try clear hk); (try clear hi)
                                               refine hK.out _ _ ⟨vZ0 BK366, vZ1 BK366, (hC HB hw372_0 :), (hC HB hw372_1 :)⟩ (fun hHeld => ?_)
                                               clear hK K
                                               refine nU ?_
                                               exact norm_ (by first | (simp only [putAll, Act.put, sI, sZ, sS]; done) | (simp only [putAll, Act.put, sI, sZ, sS]; rfl)) (hJ5_9_19 (gb384) _ ⟨hHeld, (gQ BK366), (gQ BK384), GW384.out, GE384.out, NB366_384.out, NB384_366.out, bE⟩)
                                              ·skip
                                               refine box_step ?hg (N := 8) ?hd (cs := #[.int .i64 0, .int .i64 0]) (t := 50) ?hr ?_; (case hd => rfl); (case hg => rfl); (case hr => first | (go_simp; done) | (go_simp; rfl))
                                               intro gb383 hg w27 hbox hb
                                               have BK383 := aM (hbox); have GW383 := gZ HB hg; have GE383 := gZ HB hg; have NB366_383 := nG BK366 hg; have NB383_366 := nH BK366 hg; have NB384_383 := nG BK384 hg; have NB383_384 := nH BK384 hg; replace BK366 := bB BK366 hb; replace BK384 := bB BK384 hb; replace HB := tB HB hb; clear hb hbox hg
                                               refine hK.out _ _ ⟨vZ0 BK366, vZ1 BK366, (hC HB hw372_0 :), (hC HB hw372_1 :)⟩ (fun hHeld => ?_)
                                               clear hK K
                                               refine nU ?_
                                               exact norm_ (by first | (simp only [putAll, Act.put, sI, sZ, sS]; done) | (simp only [putAll, Act.put, sI, sZ, sS]; rfl)) (hJ5_18_19 (gb383, gb384) _ ⟨hHeld, (gQ BK366), (gQ BK383), (gQ BK384), GW383.out, GE383.out, NB366_383.out, NB383_366.out, NB384_383.out, NB383_384.out, GW384.out, GE384.out, NB366_384.out, NB384_366.out, bE⟩)
                                              ·skip
                                               refine box_step ?hg (N := 10) ?hd (cs := #[.int .i64 0, .int .i64 0]) (t := 50) ?hr ?_; (case hd => rfl); (case hg => rfl); (case hr => first | (go_simp; done) | (go_simp; rfl))
                                               intro gb385 hg w27 hbox hb
                                               have BK385 := aM (hbox); have GW385 := gZ HB hg; have GE385 := gZ HB hg; have NB366_385 := nG BK366 hg; have NB385_366 := nH BK366 hg; have NB384_385 := nG BK384 hg; have NB385_384 := nH BK384 hg; replace BK366 := bB BK366 hb; replace BK384 := bB BK384 hb; replace HB := tB HB hb; clear hb hbox hg
                                               refine hK.out _ _ ⟨vZ0 BK366, vZ1 BK366, (hC HB hw372_0 :), (hC HB hw372_1 :)⟩ (fun hHeld => ?_)
                                               clear hK K
                                               refine nU ?_
                                               exact norm_ (by first | (simp only [putAll, Act.put, sI, sZ, sS]; done) | (simp only [putAll, Act.put, sI, sZ, sS]; rfl)) (hJ5_19_20 (gb384, gb385) _ ⟨hHeld, (gQ BK366), (gQ BK384), (gQ BK385), GW384.out, GE384.out, NB366_384.out, NB384_366.out, NB385_384.out, NB384_385.out, GW385.out, GE385.out, NB366_385.out, NB385_366.out, bE⟩)
                                            ·skip
                                             rintro gb383 w26 ⟨hS_, h0_, h1_, h2_, h3_, h4_, h5_, h6_⟩; (try dsimp only at hS_ h0_ h1_ h2_ h3_ h4_ h5_ h6_); clear BK366 HB; have BK366 := aM h0_; have BK383 := aM h1_; have GW383 := aM h2_; have GE383 := aM h3_; have NB366_383 := aM h4_; have NB383_366 := aM h5_; have HB := aM h6_; clear h0_ h1_ h2_ h3_ h4_ h5_ h6_; have hHeld := hS_
                                             refine norm_ (a' := ?_) ?_ ?_
                                             rotate_left
                                             ·simp only [putAll, Act.put, sI, sZ, sS]
                                              rfl
                                             refine three_ (i := 9) (j := 19) (k := 20) (Ni := some 33) (Nj := some 9) (Nk := some 10) (bA 24 358399) (bA 24 882175) (bA 24 1406463) rfl rfl rfl rfl rfl rfl (three_of HT_.out kR) (by decide) (by decide) (by decide) (fun K hK => ?_) (fun K hK => ?_) (fun K hK => ?_)
                                             ·skip
                                              refine goes_ Try.func106 kR rfl #[.slice (some ad372) l0.length c0, .int .i64 (wrap64 (x21_2 + 1))] (by rfl) rfl rfl sQ ?_
                                              with_reducible refine (impl_at.calls _ _ l0 (wrap64 (x21_2 + 1)) t375 t376 _ ?side1 ?side2 A17.out).mono ?_
                                              (case side1 => repeat (first | exact (Kd.C_below HR0.out HB.out) | (with_reducible refine cA ?_ _) | (with_reducible refine cN ?_ _) | (with_reducible refine cD ?_)))
                                              (case side2 => exact HC0.out)
                                              rintro e w27 ⟨rfl, hb⟩; refine ⟨_, rfl, ?_⟩; replace BK366 := bB BK366 hb; replace BK383 := bB BK383 hb; replace HB := tB HB hb; (try clear hb); (try clear hb2); (try clear hk); (try clear hi)
                                              refine hK.out _ _ ⟨vZ0 BK366, vZ1 BK366, (hC HB hw372_0 :), (hC HB hw372_1 :)⟩ (fun hHeld => ?_)
                                              clear hK K
                                              refine nU ?_
                                              exact norm_ (by first | (simp only [putAll, Act.put, sI, sZ, sS]; done) | (simp only [putAll, Act.put, sI, sZ, sS]; rfl)) (hJ5_9_18 (gb383) _ ⟨hHeld, (gQ BK366), (gQ BK383), GW383.out, GE383.out, NB366_383.out, NB383_366.out, bE⟩)
                                             ·skip
                                              refine box_step ?hg (N := 9) ?hd (cs := #[.int .i64 0, .int .i64 0]) (t := 50) ?hr ?_; (case hd => rfl); (case hg => rfl); (case hr => first | (go_simp; done) | (go_simp; rfl))
                                              intro gb384 hg w27 hbox hb
                                              have BK384 := aM (hbox); have GW384 := gZ HB hg; have GE384 := gZ HB hg; have NB366_384 := nG BK366 hg; have NB384_366 := nH BK366 hg; have NB383_384 := nG BK383 hg; have NB384_383 := nH BK383 hg; replace BK366 := bB BK366 hb; replace BK383 := bB BK383 hb; replace HB := tB HB hb; clear hb hbox hg
                                              refine hK.out _ _ ⟨vZ0 BK366, vZ1 BK366, (hC HB hw372_0 :), (hC HB hw372_1 :)⟩ (fun hHeld => ?_)
                                              clear hK K
                                              refine nU ?_
                                              exact norm_ (by first | (simp only [putAll, Act.put, sI, sZ, sS]; done) | (simp only [putAll, Act.put, sI, sZ, sS]; rfl)) (hJ5_18_19 (gb383, gb384) _ ⟨hHeld, (gQ BK366), (gQ BK383), (gQ BK384), GW383.out, GE383.out, NB366_383.out, NB383_366.out, NB384_383.out, NB383_384.out, GW384.out, GE384.out, NB366_384.out, NB384_366.out, bE⟩)
                                             ·skip
                                              refine box_step ?hg (N := 10) ?hd (cs := #[.int .i64 0, .int .i64 0]) (t := 50) ?hr ?_; (case hd => rfl); (case hg => rfl); (case hr => first | (go_simp; done) | (go_simp; rfl))
                                              intro gb385 hg w27 hbox hb
                                              have BK385 := aM (hbox); have GW385 := gZ HB hg; have GE385 := gZ HB hg; have NB366_385 := nG BK366 hg; have NB385_366 := nH BK366 hg; have NB383_385 := nG BK383 hg; have NB385_383 := nH BK383 hg; replace BK366 := bB BK366 hb; replace BK383 := bB BK383 hb; replace HB := tB HB hb; clear hb hbox hg
                                              refine hK.out _ _ ⟨vZ0 BK366, vZ1 BK366, (hC HB hw372_0 :), (hC HB hw372_1 :)⟩ (fun hHeld => ?_)
                                              clear hK K
                                              refine nU ?_
                                              exact norm_ (by first | (simp only [putAll, Act.put, sI, sZ, sS]; done) | (simp only [putAll, Act.put, sI, sZ, sS]; rfl)) (hJ5_18_20 (gb383, gb385) _ ⟨hHeld, (gQ BK366), (gQ BK383), (gQ BK385), GW383.out, GE383.out, NB366_383.out, NB383_366.out, NB385_383.out, NB383_385.out, GW385.out, GE385.out, NB366_385.out, NB385_366.out, bE⟩)
                                           ·skip
                                            rintro _ w26 ⟨hS_, h0_, h1_⟩; (try dsimp only at hS_ h0_ h1_); clear BK366 HB; have BK366 := aM h0_; have HB := aM h1_; clear h0_ h1_; have hHeld := hS_
                                            refine norm_ (a' := ?_) ?_ ?_
                                            rotate_left
                                            ·simp only [putAll, Act.put, sI, sZ, sS]
                                             rfl
                                            refine four_ (i := 11) (j := 18) (k := 19) (m := 20) (Ni := some 35) (Nj := some 8) (Nk := some 9) (Nm := some 10) (bA 24 98303) (bA 24 358399) (bA 24 620543) (bA 24 1144831) rfl rfl rfl rfl rfl rfl rfl rfl (four_of HT_.out kR) (by decide) (by decide) (by decide) (by decide) (fun K hK => ?_) (fun K hK => ?_) (fun K hK => ?_) (fun K hK => ?_)
                                            ·skip
                                             refine goes_ Try.func65 kR rfl #[.agg #[.int .i64 t375, .int .i64 t376], .agg #[.int .i64 a1_0, .int .i64 a1_1]] (by rfl) rfl rfl sQ ?_
                                             with_reducible refine (impl_Peg_less.calls t375 t376 a1_0 a1_1 t377 t378 _ A18.out).mono ?_
                                             rintro e w27 ⟨rfl, hb⟩; refine ⟨_, rfl, ?_⟩; replace BK366 := bB BK366 hb; replace HB := tB HB hb; (try clear hb); (try clear hb2); (try clear hk); (try clear hi)
                                             refine hK.out _ _ ⟨vZ0 BK366, vZ1 BK366, (hC HB hw372_0 :), (hC HB hw372_1 :)⟩ (fun hHeld => ?_)
                                             clear hK K
                                             refine nU ?_
                                             exact norm_ (by first | (simp only [putAll, Act.put, sI, sZ, sS]; done) | (simp only [putAll, Act.put, sI, sZ, sS]; rfl)) (hJ5_9_11 () _ ⟨hHeld, (gQ BK366), bE⟩)
                                            ·skip
                                             refine box_step ?hg (N := 8) ?hd (cs := #[.int .i64 0, .int .i64 0]) (t := 50) ?hr ?_; (case hd => rfl); (case hg => rfl); (case hr => first | (go_simp; done) | (go_simp; rfl))
                                             intro gb383 hg w27 hbox hb
                                             have BK383 := aM (hbox); have GW383 := gZ HB hg; have GE383 := gZ HB hg; have NB366_383 := nG BK366 hg; have NB383_366 := nH BK366 hg; replace BK366 := bB BK366 hb; replace HB := tB HB hb; clear hb hbox hg
                                             refine hK.out _ _ ⟨vZ0 BK366, vZ1 BK366, (hC HB hw372_0 :), (hC HB hw372_1 :)⟩ (fun hHeld => ?_)
                                             clear hK K
                                             refine nU ?_
                                             exact norm_ (by first | (simp only [putAll, Act.put, sI, sZ, sS]; done) | (simp only [putAll, Act.put, sI, sZ, sS]; rfl)) (hJ5_9_18 (gb383) _ ⟨hHeld, (gQ BK366), (gQ BK383), GW383.out, GE383.out, NB366_383.out, NB383_366.out, bE⟩)
                                            ·skip
                                             refine box_step ?hg (N := 9) ?hd (cs := #[.int .i64 0, .int .i64 0]) (t := 50) ?hr ?_; (case hd => rfl); (case hg => rfl); (case hr => first | (go_simp; done) | (go_simp; rfl))
                                             intro gb384 hg w27 hbox hb
                                             have BK384 := aM (hbox); have GW384 := gZ HB hg; have GE384 := gZ HB hg; have NB366_384 := nG BK366 hg; have NB384_366 := nH BK366 hg; replace BK366 := bB BK366 hb; replace HB := tB HB hb; clear hb hbox hg
                                             refine hK.out _ _ ⟨vZ0 BK366, vZ1 BK366, (hC HB hw372_0 :), (hC HB hw372_1 :)⟩ (fun hHeld => ?_)
                                             clear hK K
                                             refine nU ?_
                                             exact norm_ (by first | (simp only [putAll, Act.put, sI, sZ, sS]; done) | (simp only [putAll, Act.put, sI, sZ, sS]; rfl)) (hJ5_9_19 (gb384) _ ⟨hHeld, (gQ BK366), (gQ BK384), GW384.out, GE384.out, NB366_384.out, NB384_366.out, bE⟩)
                                            ·skip
                                             refine box_step ?hg (N := 10) ?hd (cs := #[.int .i64 0, .int .i64 0]) (t := 50) ?hr ?_; (case hd => rfl); (case hg => rfl); (case hr => first | (go_simp; done) | (go_simp; rfl))
                                             intro gb385 hg w27 hbox hb
                                             have BK385 := aM (hbox); have GW385 := gZ HB hg; have GE385 := gZ HB hg; have NB366_385 := nG BK366 hg; have NB385_366 := nH BK366 hg; replace BK366 := bB BK366 hb; replace HB := tB HB hb; clear hb hbox hg
                                             refine hK.out _ _ ⟨vZ0 BK366, vZ1 BK366, (hC HB hw372_0 :), (hC HB hw372_1 :)⟩ (fun hHeld => ?_)
                                             clear hK K
                                             refine nU ?_
                                             exact norm_ (by first | (simp only [putAll, Act.put, sI, sZ, sS]; done) | (simp only [putAll, Act.put, sI, sZ, sS]; rfl)) (hJ5_9_20 (gb385) _ ⟨hHeld, (gQ BK366), (gQ BK385), GW385.out, GE385.out, NB366_385.out, NB385_366.out, bE⟩)
                                          ·skip
                                           rintro ⟨gb383, gb384, gb385⟩ w27 ⟨hS_, h0_, h1_, h2_, h3_, h4_, h5_, h6_, h7_, h8_, h9_, h10_, h11_, h12_, h13_, h14_, h15_, h16_, h17_, h18_, h19_, h20_, h21_, h22_⟩; (try dsimp only at hS_ h0_ h1_ h2_ h3_ h4_ h5_ h6_ h7_ h8_ h9_ h10_ h11_ h12_ h13_ h14_ h15_ h16_ h17_ h18_ h19_ h20_ h21_ h22_); clear BK366 HB; have BK366 := aM h0_; have BK383 := aM h1_; have BK384 := aM h2_; have BK385 := aM h3_; have GW383 := aM h4_; have GE383 := aM h5_; have NB366_383 := aM h6_; have NB383_366 := aM h7_; have NB384_383 := aM h8_; have NB383_384 := aM h9_; have NB385_383 := aM h10_; have NB383_385 := aM h11_; have GW384 := aM h12_; have GE384 := aM h13_; have NB366_384 := aM h14_; have NB384_366 := aM h15_; have NB385_384 := aM h16_; have NB384_385 := aM h17_; have GW385 := aM h18_; have GE385 := aM h19_; have NB366_385 := aM h20_; have NB385_366 := aM h21_; have HB := aM h22_; clear h0_ h1_ h2_ h3_ h4_ h5_ h6_ h7_ h8_ h9_ h10_ h11_ h12_ h13_ h14_ h15_ h16_ h17_ h18_ h19_ h20_ h21_ h22_; have hHeld := hS_
                                           refine norm_ (a' := ?_) ?_ ?_
                                           rotate_left
                                           ·simp only [putAll, Act.put, sI, sZ, sS]
                                            rfl
                                           refine oU 5 29 (bA 24 1930751) HT_ (fun K hK => ?_)
                                           refine goes_ Try.func65 kR rfl #[.agg #[.int .i64 ((rd_impl_Peg l0 x21_2).f0), .int .i64 ((rd_impl_Peg l0 x21_2).f1)], .agg #[.int .i64 a1_0, .int .i64 a1_1]] (by rfl) rfl rfl sQ ?_
                                           with_reducible refine (impl_Peg_less.calls ((rd_impl_Peg l0 x21_2).f0) ((rd_impl_Peg l0 x21_2).f1) a1_0 a1_1 t373 t374 _ A16.out).mono ?_
                                           rintro e w28 ⟨rfl, hb⟩; refine ⟨_, rfl, ?_⟩; replace BK366 := bB BK366 hb; replace BK383 := bB BK383 hb; replace BK384 := bB BK384 hb; replace BK385 := bB BK385 hb; replace HB := tB HB hb; (try clear hb); (try clear hb2); (try clear hk); (try clear hi)
                                           refine hK.out _ _ ⟨vZ0 BK366, vZ1 BK366, (hC HB hw372_0 :), (hC HB hw372_1 :)⟩ (fun hHeld => ?_)
                                           clear hK K
                                           refine nU ?_
                                           exact norm_ (by first | (simp only [putAll, Act.put, sI, sZ, sS]; done) | (simp only [putAll, Act.put, sI, sZ, sS]; rfl)) (hJ5_18_19_20 (gb383, gb384, gb385) _ ⟨hHeld, (gQ BK366), (gQ BK383), (gQ BK384), (gQ BK385), GW383.out, GE383.out, NB366_383.out, NB383_366.out, NB384_383.out, NB383_384.out, NB385_383.out, NB383_385.out, GW384.out, GE384.out, NB366_384.out, NB384_366.out, NB385_384.out, NB384_385.out, GW385.out, GE385.out, NB366_385.out, NB385_366.out, bE⟩)
                                         ·skip
                                          rintro ⟨gb384, gb385⟩ w27 ⟨hS_, h0_, h1_, h2_, h3_, h4_, h5_, h6_, h7_, h8_, h9_, h10_, h11_, h12_, h13_⟩; (try dsimp only at hS_ h0_ h1_ h2_ h3_ h4_ h5_ h6_ h7_ h8_ h9_ h10_ h11_ h12_ h13_); clear BK366 HB; have BK366 := aM h0_; have BK384 := aM h1_; have BK385 := aM h2_; have GW384 := aM h3_; have GE384 := aM h4_; have NB366_384 := aM h5_; have NB384_366 := aM h6_; have NB385_384 := aM h7_; have NB384_385 := aM h8_; have GW385 := aM h9_; have GE385 := aM h10_; have NB366_385 := aM h11_; have NB385_366 := aM h12_; have HB := aM h13_; clear h0_ h1_ h2_ h3_ h4_ h5_ h6_ h7_ h8_ h9_ h10_ h11_ h12_ h13_; have hHeld := hS_
                                          refine norm_ (a' := ?_) ?_ ?_
                                          rotate_left
                                          ·simp only [putAll, Act.put, sI, sZ, sS]
                                           rfl
                                          refine two_ (i := 9) (j := 18) (Ni := some 33) (Nj := some 8) (bA 24 1669119) (bA 24 1930751) rfl rfl rfl rfl (two_of HT_.out kR) (by decide) (by decide) (fun K hK => ?_) (fun K hK => ?_)
                                          ·skip
                                           refine goes_ Try.func106 kR rfl #[.slice (some ad372) l0.length c0, .int .i64 (wrap64 (x21_2 + 1))] (by rfl) rfl rfl sQ ?_
                                           with_reducible refine (impl_at.calls _ _ l0 (wrap64 (x21_2 + 1)) t375 t376 _ ?side1 ?side2 A17.out).mono ?_
                                           (case side1 => repeat (first | exact (Kd.C_below HR0.out HB.out) | (with_reducible refine cA ?_ _) | (with_reducible refine cN ?_ _) | (with_reducible refine cD ?_)))
                                           (case side2 => exact HC0.out)
                                           rintro e w28 ⟨rfl, hb⟩; refine ⟨_, rfl, ?_⟩; replace BK366 := bB BK366 hb; replace BK384 := bB BK384 hb; replace BK385 := bB BK385 hb; replace HB := tB HB hb; (try clear hb); (try clear hb2); (try clear hk); (try clear hi)
                                           refine hK.out _ _ ⟨vZ0 BK366, vZ1 BK366, (hC HB hw372_0 :), (hC HB hw372_1 :)⟩ (fun hHeld => ?_)
                                           clear hK K
                                           refine nU ?_
                                           exact norm_ (by first | (simp only [putAll, Act.put, sI, sZ, sS]; done) | (simp only [putAll, Act.put, sI, sZ, sS]; rfl)) (hJ5_9_19_20 (gb384, gb385) _ ⟨hHeld, (gQ BK366), (gQ BK384), (gQ BK385), GW384.out, GE384.out, NB366_384.out, NB384_366.out, NB385_384.out, NB384_385.out, GW385.out, GE385.out, NB366_385.out, NB385_366.out, bE⟩)
                                          ·skip
                                           refine box_step ?hg (N := 8) ?hd (cs := #[.int .i64 0, .int .i64 0]) (t := 50) ?hr ?_; (case hd => rfl); (case hg => rfl); (case hr => first | (go_simp; done) | (go_simp; rfl))
                                           intro gb383 hg w28 hbox hb
                                           have BK383 := aM (hbox); have GW383 := gZ HB hg; have GE383 := gZ HB hg; have NB366_383 := nG BK366 hg; have NB383_366 := nH BK366 hg; have NB384_383 := nG BK384 hg; have NB383_384 := nH BK384 hg; have NB385_383 := nG BK385 hg; have NB383_385 := nH BK385 hg; replace BK366 := bB BK366 hb; replace BK384 := bB BK384 hb; replace BK385 := bB BK385 hb; replace HB := tB HB hb; clear hb hbox hg
                                           refine hK.out _ _ ⟨vZ0 BK366, vZ1 BK366, (hC HB hw372_0 :), (hC HB hw372_1 :)⟩ (fun hHeld => ?_)
                                           clear hK K
                                           refine nU ?_
                                           exact norm_ (by first | (simp only [putAll, Act.put, sI, sZ, sS]; done) | (simp only [putAll, Act.put, sI, sZ, sS]; rfl)) (hJ5_18_19_20 (gb383, gb384, gb385) _ ⟨hHeld, (gQ BK366), (gQ BK383), (gQ BK384), (gQ BK385), GW383.out, GE383.out, NB366_383.out, NB383_366.out, NB384_383.out, NB383_384.out, NB385_383.out, NB383_385.out, GW384.out, GE384.out, NB366_384.out, NB384_366.out, NB385_384.out, NB384_385.out, GW385.out, GE385.out, NB366_385.out, NB385_366.out, bE⟩)
                                        ·skip
                                         rintro ⟨gb383, gb385⟩ w27 ⟨hS_, h0_, h1_, h2_, h3_, h4_, h5_, h6_, h7_, h8_, h9_, h10_, h11_, h12_, h13_⟩; (try dsimp only at hS_ h0_ h1_ h2_ h3_ h4_ h5_ h6_ h7_ h8_ h9_ h10_ h11_ h12_ h13_); clear BK366 HB; have BK366 := aM h0_; have BK383 := aM h1_; have BK385 := aM h2_; have GW383 := aM h3_; have GE383 := aM h4_; have NB366_383 := aM h5_; have NB383_366 := aM h6_; have NB385_383 := aM h7_; have NB383_385 := aM h8_; have GW385 := aM h9_; have GE385 := aM h10_; have NB366_385 := aM h11_; have NB385_366 := aM h12_; have HB := aM h13_; clear h0_ h1_ h2_ h3_ h4_ h5_ h6_ h7_ h8_ h9_ h10_ h11_ h12_ h13_; have hHeld := hS_
                                         refine norm_ (a' := ?_) ?_ ?_
                                         rotate_left
                                         ·simp only [putAll, Act.put, sI, sZ, sS]
                                          rfl
                                         refine two_ (i := 9) (j := 19) (Ni := some 33) (Nj := some 9) (bA 24 1406975) (bA 24 1930751) rfl rfl rfl rfl (two_of HT_.out kR) (by decide) (by decide) (fun K hK => ?_) (fun K hK => ?_)
                                         ·skip
                                          refine goes_ Try.func106 kR rfl #[.slice (some ad372) l0.length c0, .int .i64 (wrap64 (x21_2 + 1))] (by rfl) rfl rfl sQ ?_
                                          with_reducible refine (impl_at.calls _ _ l0 (wrap64 (x21_2 + 1)) t375 t376 _ ?side1 ?side2 A17.out).mono ?_
                                          (case side1 => repeat (first | exact (Kd.C_below HR0.out HB.out) | (with_reducible refine cA ?_ _) | (with_reducible refine cN ?_ _) | (with_reducible refine cD ?_)))
                                          (case side2 => exact HC0.out)
                                          rintro e w28 ⟨rfl, hb⟩; refine ⟨_, rfl, ?_⟩; replace BK366 := bB BK366 hb; replace BK383 := bB BK383 hb; replace BK385 := bB BK385 hb; replace HB := tB HB hb; (try clear hb); (try clear hb2); (try clear hk); (try clear hi)
                                          refine hK.out _ _ ⟨vZ0 BK366, vZ1 BK366, (hC HB hw372_0 :), (hC HB hw372_1 :)⟩ (fun hHeld => ?_)
                                          clear hK K
                                          refine nU ?_
                                          exact norm_ (by first | (simp only [putAll, Act.put, sI, sZ, sS]; done) | (simp only [putAll, Act.put, sI, sZ, sS]; rfl)) (hJ5_9_18_20 (gb383, gb385) _ ⟨hHeld, (gQ BK366), (gQ BK383), (gQ BK385), GW383.out, GE383.out, NB366_383.out, NB383_366.out, NB385_383.out, NB383_385.out, GW385.out, GE385.out, NB366_385.out, NB385_366.out, bE⟩)
                                         ·skip
                                          refine box_step ?hg (N := 9) ?hd (cs := #[.int .i64 0, .int .i64 0]) (t := 50) ?hr ?_; (case hd => rfl); (case hg => rfl); (case hr => first | (go_simp; done) | (go_simp; rfl))
                                          intro gb384 hg w28 hbox hb
                                          have BK384 := aM (hbox); have GW384 := gZ HB hg; have GE384 := gZ HB hg; have NB366_384 := nG BK366 hg; have NB384_366 := nH BK366 hg; have NB383_384 := nG BK383 hg; have NB384_383 := nH BK383 hg; have NB385_384 := nG BK385 hg; have NB384_385 := nH BK385 hg; replace BK366 := bB BK366 hb; replace BK383 := bB BK383 hb; replace BK385 := bB BK385 hb; replace HB := tB HB hb; clear hb hbox hg
                                          refine hK.out _ _ ⟨vZ0 BK366, vZ1 BK366, (hC HB hw372_0 :), (hC HB hw372_1 :)⟩ (fun hHeld => ?_)
                                          clear hK K
                                          refine nU ?_
                                          exact norm_ (by first | (simp only [putAll, Act.put, sI, sZ, sS]; done) | (simp only [putAll, Act.put, sI, sZ, sS]; rfl)) (hJ5_18_19_20 (gb383, gb384, gb385) _ ⟨hHeld, (gQ BK366), (gQ BK383), (gQ BK384), (gQ BK385), GW383.out, GE383.out, NB366_383.out, NB383_366.out, NB384_383.out, NB383_384.out, NB385_383.out, NB383_385.out, GW384.out, GE384.out, NB366_384.out, NB384_366.out, NB385_384.out, NB384_385.out, GW385.out, GE385.out, NB366_385.out, NB385_366.out, bE⟩)
                                       ·skip
                                        rintro ⟨gb383, gb384⟩ w27 ⟨hS_, h0_, h1_, h2_, h3_, h4_, h5_, h6_, h7_, h8_, h9_, h10_, h11_, h12_, h13_⟩; (try dsimp only at hS_ h0_ h1_ h2_ h3_ h4_ h5_ h6_ h7_ h8_ h9_ h10_ h11_ h12_ h13_); clear BK366 HB; have BK366 := aM h0_; have BK383 := aM h1_; have BK384 := aM h2_; have GW383 := aM h3_; have GE383 := aM h4_; have NB366_383 := aM h5_; have NB383_366 := aM h6_; have NB384_383 := aM h7_; have NB383_384 := aM h8_; have GW384 := aM h9_; have GE384 := aM h10_; have NB366_384 := aM h11_; have NB384_366 := aM h12_; have HB := aM h13_; clear h0_ h1_ h2_ h3_ h4_ h5_ h6_ h7_ h8_ h9_ h10_ h11_ h12_ h13_; have hHeld := hS_
                                        refine norm_ (a' := ?_) ?_ ?_
                                        rotate_left
                                        ·simp only [putAll, Act.put, sI, sZ, sS]
                                         rfl
                                        refine two_ (i := 9) (j := 20) (Ni := some 33) (Nj := some 10) (bA 24 882687) (bA 24 1930751) rfl rfl rfl rfl (two_of HT_.out kR) (by decide) (by decide) (fun K hK => ?_) (fun K hK => ?_)
                                        ·skip
                                         refine goes_ Try.func106 kR rfl #[.slice (some ad372) l0.length c0, .int .i64 (wrap64 (x21_2 + 1))] (by rfl) rfl rfl sQ ?_
                                         with_reducible refine (impl_at.calls _ _ l0 (wrap64 (x21_2 + 1)) t375 t376 _ ?side1 ?side2 A17.out).mono ?_
                                         (case side1 => repeat (first | exact (Kd.C_below HR0.out HB.out) | (with_reducible refine cA ?_ _) | (with_reducible refine cN ?_ _) | (with_reducible refine cD ?_)))
                                         (case side2 => exact HC0.out)
                                         rintro e w28 ⟨rfl, hb⟩; refine ⟨_, rfl, ?_⟩; replace BK366 := bB BK366 hb; replace BK383 := bB BK383 hb; replace BK384 := bB BK384 hb; replace HB := tB HB hb; (try clear hb); (try clear hb2); (try clear hk); (try clear hi)
                                         refine hK.out _ _ ⟨vZ0 BK366, vZ1 BK366, (hC HB hw372_0 :), (hC HB hw372_1 :)⟩ (fun hHeld => ?_)
                                         clear hK K
                                         refine nU ?_
                                         exact norm_ (by first | (simp only [putAll, Act.put, sI, sZ, sS]; done) | (simp only [putAll, Act.put, sI, sZ, sS]; rfl)) (hJ5_9_18_19 (gb383, gb384) _ ⟨hHeld, (gQ BK366), (gQ BK383), (gQ BK384), GW383.out, GE383.out, NB366_383.out, NB383_366.out, NB384_383.out, NB383_384.out, GW384.out, GE384.out, NB366_384.out, NB384_366.out, bE⟩)
                                        ·skip
                                         refine box_step ?hg (N := 10) ?hd (cs := #[.int .i64 0, .int .i64 0]) (t := 50) ?hr ?_; (case hd => rfl); (case hg => rfl); (case hr => first | (go_simp; done) | (go_simp; rfl))
                                         intro gb385 hg w28 hbox hb
                                         have BK385 := aM (hbox); have GW385 := gZ HB hg; have GE385 := gZ HB hg; have NB366_385 := nG BK366 hg; have NB385_366 := nH BK366 hg; have NB383_385 := nG BK383 hg; have NB385_383 := nH BK383 hg; have NB384_385 := nG BK384 hg; have NB385_384 := nH BK384 hg; replace BK366 := bB BK366 hb; replace BK383 := bB BK383 hb; replace BK384 := bB BK384 hb; replace HB := tB HB hb; clear hb hbox hg
                                         refine hK.out _ _ ⟨vZ0 BK366, vZ1 BK366, (hC HB hw372_0 :), (hC HB hw372_1 :)⟩ (fun hHeld => ?_)
                                         clear hK K
                                         refine nU ?_
                                         exact norm_ (by first | (simp only [putAll, Act.put, sI, sZ, sS]; done) | (simp only [putAll, Act.put, sI, sZ, sS]; rfl)) (hJ5_18_19_20 (gb383, gb384, gb385) _ ⟨hHeld, (gQ BK366), (gQ BK383), (gQ BK384), (gQ BK385), GW383.out, GE383.out, NB366_383.out, NB383_366.out, NB384_383.out, NB383_384.out, NB385_383.out, NB383_385.out, GW384.out, GE384.out, NB366_384.out, NB384_366.out, NB385_384.out, NB384_385.out, GW385.out, GE385.out, NB366_385.out, NB385_366.out, bE⟩)
                                      ·skip
                                       rintro gb385 w27 ⟨hS_, h0_, h1_, h2_, h3_, h4_, h5_, h6_⟩; (try dsimp only at hS_ h0_ h1_ h2_ h3_ h4_ h5_ h6_); clear BK366 HB; have BK366 := aM h0_; have BK385 := aM h1_; have GW385 := aM h2_; have GE385 := aM h3_; have NB366_385 := aM h4_; have NB385_366 := aM h5_; have HB := aM h6_; clear h0_ h1_ h2_ h3_ h4_ h5_ h6_; have hHeld := hS_
                                       refine norm_ (a' := ?_) ?_ ?_
                                       rotate_left
                                       ·simp only [putAll, Act.put, sI, sZ, sS]
                                        rfl
                                       refine three_ (i := 11) (j := 18) (k := 19) (Ni := some 35) (Nj := some 8) (Nk := some 9) (bA 24 1146879) (bA 24 1406975) (bA 24 1669119) rfl rfl rfl rfl rfl rfl (three_of HT_.out kR) (by decide) (by decide) (by decide) (fun K hK => ?_) (fun K hK => ?_) (fun K hK => ?_)
                                       ·skip
                                        refine goes_ Try.func65 kR rfl #[.agg #[.int .i64 t375, .int .i64 t376], .agg #[.int .i64 a1_0, .int .i64 a1_1]] (by rfl) rfl rfl sQ ?_
                                        with_reducible refine (impl_Peg_less.calls t375 t376 a1_0 a1_1 t377 t378 _ A18.out).mono ?_
                                        rintro e w28 ⟨rfl, hb⟩; refine ⟨_, rfl, ?_⟩; replace BK366 := bB BK366 hb; replace BK385 := bB BK385 hb; replace HB := tB HB hb; (try clear hb); (try clear hb2); (try clear hk); (try clear hi)
                                        refine hK.out _ _ ⟨vZ0 BK366, vZ1 BK366, (hC HB hw372_0 :), (hC HB hw372_1 :)⟩ (fun hHeld => ?_)
                                        clear hK K
                                        refine nU ?_
                                        exact norm_ (by first | (simp only [putAll, Act.put, sI, sZ, sS]; done) | (simp only [putAll, Act.put, sI, sZ, sS]; rfl)) (hJ5_9_11_20 (gb385) _ ⟨hHeld, (gQ BK366), (gQ BK385), GW385.out, GE385.out, NB366_385.out, NB385_366.out, bE⟩)
                                       ·skip
                                        refine box_step ?hg (N := 8) ?hd (cs := #[.int .i64 0, .int .i64 0]) (t := 50) ?hr ?_; (case hd => rfl); (case hg => rfl); (case hr => first | (go_simp; done) | (go_simp; rfl))
                                        intro gb383 hg w28 hbox hb
                                        have BK383 := aM (hbox); have GW383 := gZ HB hg; have GE383 := gZ HB hg; have NB366_383 := nG BK366 hg; have NB383_366 := nH BK366 hg; have NB385_383 := nG BK385 hg; have NB383_385 := nH BK385 hg; replace BK366 := bB BK366 hb; replace BK385 := bB BK385 hb; replace HB := tB HB hb; clear hb hbox hg
                                        refine hK.out _ _ ⟨vZ0 BK366, vZ1 BK366, (hC HB hw372_0 :), (hC HB hw372_1 :)⟩ (fun hHeld => ?_)
                                        clear hK K
                                        refine nU ?_
                                        exact norm_ (by first | (simp only [putAll, Act.put, sI, sZ, sS]; done) | (simp only [putAll, Act.put, sI, sZ, sS]; rfl)) (hJ5_9_18_20 (gb383, gb385) _ ⟨hHeld, (gQ BK366), (gQ BK383), (gQ BK385), GW383.out, GE383.out, NB366_383.out, NB383_366.out, NB385_383.out, NB383_385.out, GW385.out, GE385.out, NB366_385.out, NB385_366.out, bE⟩)
                                       ·skip
                                        refine box_step ?hg (N := 9) ?hd (cs := #[.int .i64 0, .int .i64 0]) (t := 50) ?hr ?_; (case hd => rfl); (case hg => rfl); (case hr => first | (go_simp; done) | (go_simp; rfl))
                                        intro gb384 hg w28 hbox hb
                                        have BK384 := aM (hbox); have GW384 := gZ HB hg; have GE384 := gZ HB hg; have NB366_384 := nG BK366 hg; have NB384_366 := nH BK366 hg; have NB385_384 := nG BK385 hg; have NB384_385 := nH BK385 hg; replace BK366 := bB BK366 hb; replace BK385 := bB BK385 hb; replace HB := tB HB hb; clear hb hbox hg
                                        refine hK.out _ _ ⟨vZ0 BK366, vZ1 BK366, (hC HB hw372_0 :), (hC HB hw372_1 :)⟩ (fun hHeld => ?_)
                                        clear hK K
                                        refine nU ?_
                                        exact norm_ (by first | (simp only [putAll, Act.put, sI, sZ, sS]; done) | (simp only [putAll, Act.put, sI, sZ, sS]; rfl)) (hJ5_9_19_20 (gb384, gb385) _ ⟨hHeld, (gQ BK366), (gQ BK384), (gQ BK385), GW384.out, GE384.out, NB366_384.out, NB384_366.out, NB385_384.out, NB384_385.out, GW385.out, GE385.out, NB366_385.out, NB385_366.out, bE⟩)
                                     ·skip
                                      rintro gb384 w27 ⟨hS_, h0_, h1_, h2_, h3_, h4_, h5_, h6_⟩; (try dsimp only at hS_ h0_ h1_ h2_ h3_ h4_ h5_ h6_); clear BK366 HB; have BK366 := aM h0_; have BK384 := aM h1_; have GW384 := aM h2_; have GE384 := aM h3_; have NB366_384 := aM h4_; have NB384_366 := aM h5_; have HB := aM h6_; clear h0_ h1_ h2_ h3_ h4_ h5_ h6_; have hHeld := hS_
                                      refine norm_ (a' := ?_) ?_ ?_
                                      rotate_left
                                      ·simp only [putAll, Act.put, sI, sZ, sS]
                                       rfl
                                      refine three_ (i := 11) (j := 18) (k := 20) (Ni := some 35) (Nj := some 8) (Nk := some 10) (bA 24 622591) (bA 24 882687) (bA 24 1669119) rfl rfl rfl rfl rfl rfl (three_of HT_.out kR) (by decide) (by decide) (by decide) (fun K hK => ?_) (fun K hK => ?_) (fun K hK => ?_)
                                      ·skip
                                       refine goes_ Try.func65 kR rfl #[.agg #[.int .i64 t375, .int .i64 t376], .agg #[.int .i64 a1_0, .int .i64 a1_1]] (by rfl) rfl rfl sQ ?_
                                       with_reducible refine (impl_Peg_less.calls t375 t376 a1_0 a1_1 t377 t378 _ A18.out).mono ?_
                                       rintro e w28 ⟨rfl, hb⟩; refine ⟨_, rfl, ?_⟩; replace BK366 := bB BK366 hb; replace BK384 := bB BK384 hb; replace HB := tB HB hb; (try clear hb); (try clear hb2); (try clear hk); (try clear hi)
                                       refine hK.out _ _ ⟨vZ0 BK366, vZ1 BK366, (hC HB hw372_0 :), (hC HB hw372_1 :)⟩ (fun hHeld => ?_)
                                       clear hK K
                                       refine nU ?_
                                       exact norm_ (by first | (simp only [putAll, Act.put, sI, sZ, sS]; done) | (simp only [putAll, Act.put, sI, sZ, sS]; rfl)) (hJ5_9_11_19 (gb384) _ ⟨hHeld, (gQ BK366), (gQ BK384), GW384.out, GE384.out, NB366_384.out, NB384_366.out, bE⟩)
                                      ·skip
                                       refine box_step ?hg (N := 8) ?hd (cs := #[.int .i64 0, .int .i64 0]) (t := 50) ?hr ?_; (case hd => rfl); (case hg => rfl); (case hr => first | (go_simp; done) | (go_simp; rfl))
                                       intro gb383 hg w28 hbox hb
                                       have BK383 := aM (hbox); have GW383 := gZ HB hg; have GE383 := gZ HB hg; have NB366_383 := nG BK366 hg; have NB383_366 := nH BK366 hg; have NB384_383 := nG BK384 hg; have NB383_384 := nH BK384 hg; replace BK366 := bB BK366 hb; replace BK384 := bB BK384 hb; replace HB := tB HB hb; clear hb hbox hg
                                       refine hK.out _ _ ⟨vZ0 BK366, vZ1 BK366, (hC HB hw372_0 :), (hC HB hw372_1 :)⟩ (fun hHeld => ?_)
                                       clear hK K
                                       refine nU ?_
                                       exact norm_ (by first | (simp only [putAll, Act.put, sI, sZ, sS]; done) | (simp only [putAll, Act.put, sI, sZ, sS]; rfl)) (hJ5_9_18_19 (gb383, gb384) _ ⟨hHeld, (gQ BK366), (gQ BK383), (gQ BK384), GW383.out, GE383.out, NB366_383.out, NB383_366.out, NB384_383.out, NB383_384.out, GW384.out, GE384.out, NB366_384.out, NB384_366.out, bE⟩)
                                      ·skip
                                       refine box_step ?hg (N := 10) ?hd (cs := #[.int .i64 0, .int .i64 0]) (t := 50) ?hr ?_; (case hd => rfl); (case hg => rfl); (case hr => first | (go_simp; done) | (go_simp; rfl))
                                       intro gb385 hg w28 hbox hb
                                       have BK385 := aM (hbox); have GW385 := gZ HB hg; have GE385 := gZ HB hg; have NB366_385 := nG BK366 hg; have NB385_366 := nH BK366 hg; have NB384_385 := nG BK384 hg; have NB385_384 := nH BK384 hg; replace BK366 := bB BK366 hb; replace BK384 := bB BK384 hb; replace HB := tB HB hb; clear hb hbox hg
                                       refine hK.out _ _ ⟨vZ0 BK366, vZ1 BK366, (hC HB hw372_0 :), (hC HB hw372_1 :)⟩ (fun hHeld => ?_)
                                       clear hK K
                                       refine nU ?_
                                       exact norm_ (by first | (simp only [putAll, Act.put, sI, sZ, sS]; done) | (simp only [putAll, Act.put, sI, sZ, sS]; rfl)) (hJ5_9_19_20 (gb384, gb385) _ ⟨hHeld, (gQ BK366), (gQ BK384), (gQ BK385), GW384.out, GE384.out, NB366_384.out, NB384_366.out, NB385_384.out, NB384_385.out, GW385.out, GE385.out, NB366_385.out, NB385_366.out, bE⟩)
                                    ·skip
                                     rintro gb383 w27 ⟨hS_, h0_, h1_, h2_, h3_, h4_, h5_, h6_⟩; (try dsimp only at hS_ h0_ h1_ h2_ h3_ h4_ h5_ h6_); clear BK366 HB; have BK366 := aM h0_; have BK383 := aM h1_; have GW383 := aM h2_; have GE383 := aM h3_; have NB366_383 := aM h4_; have NB383_366 := aM h5_; have HB := aM h6_; clear h0_ h1_ h2_ h3_ h4_ h5_ h6_; have hHeld := hS_
                                     refine norm_ (a' := ?_) ?_ ?_
                                     rotate_left
                                     ·simp only [putAll, Act.put, sI, sZ, sS]
                                      rfl
                                     refine three_ (i := 11) (j := 19) (k := 20) (Ni := some 35) (Nj := some 9) (Nk := some 10) (bA 24 360447) (bA 24 882687) (bA 24 1406975) rfl rfl rfl rfl rfl rfl (three_of HT_.out kR) (by decide) (by decide) (by decide) (fun K hK => ?_) (fun K hK => ?_) (fun K hK => ?_)
                                     ·skip
                                      refine goes_ Try.func65 kR rfl #[.agg #[.int .i64 t375, .int .i64 t376], .agg #[.int .i64 a1_0, .int .i64 a1_1]] (by rfl) rfl rfl sQ ?_
                                      with_reducible refine (impl_Peg_less.calls t375 t376 a1_0 a1_1 t377 t378 _ A18.out).mono ?_
                                      rintro e w28 ⟨rfl, hb⟩; refine ⟨_, rfl, ?_⟩; replace BK366 := bB BK366 hb; replace BK383 := bB BK383 hb; replace HB := tB HB hb; (try clear hb); (try clear hb2); (try clear hk); (try clear hi)
                                      refine hK.out _ _ ⟨vZ0 BK366, vZ1 BK366, (hC HB hw372_0 :), (hC HB hw372_1 :)⟩ (fun hHeld => ?_)
                                      clear hK K
                                      refine nU ?_
                                      exact norm_ (by first | (simp only [putAll, Act.put, sI, sZ, sS]; done) | (simp only [putAll, Act.put, sI, sZ, sS]; rfl)) (hJ5_9_11_18 (gb383) _ ⟨hHeld, (gQ BK366), (gQ BK383), GW383.out, GE383.out, NB366_383.out, NB383_366.out, bE⟩)
                                     ·skip
                                      refine box_step ?hg (N := 9) ?hd (cs := #[.int .i64 0, .int .i64 0]) (t := 50) ?hr ?_; (case hd => rfl); (case hg => rfl); (case hr => first | (go_simp; done) | (go_simp; rfl))
                                      intro gb384 hg w28 hbox hb
                                      have BK384 := aM (hbox); have GW384 := gZ HB hg; have GE384 := gZ HB hg; have NB366_384 := nG BK366 hg; have NB384_366 := nH BK366 hg; have NB383_384 := nG BK383 hg; have NB384_383 := nH BK383 hg; replace BK366 := bB BK366 hb; replace BK383 := bB BK383 hb; replace HB := tB HB hb; clear hb hbox hg
                                      refine hK.out _ _ ⟨vZ0 BK366, vZ1 BK366, (hC HB hw372_0 :), (hC HB hw372_1 :)⟩ (fun hHeld => ?_)
                                      clear hK K
                                      refine nU ?_
                                      exact norm_ (by first | (simp only [putAll, Act.put, sI, sZ, sS]; done) | (simp only [putAll, Act.put, sI, sZ, sS]; rfl)) (hJ5_9_18_19 (gb383, gb384) _ ⟨hHeld, (gQ BK366), (gQ BK383), (gQ BK384), GW383.out, GE383.out, NB366_383.out, NB383_366.out, NB384_383.out, NB383_384.out, GW384.out, GE384.out, NB366_384.out, NB384_366.out, bE⟩)
                                     ·skip
                                      refine box_step ?hg (N := 10) ?hd (cs := #[.int .i64 0, .int .i64 0]) (t := 50) ?hr ?_; (case hd => rfl); (case hg => rfl); (case hr => first | (go_simp; done) | (go_simp; rfl))
                                      intro gb385 hg w28 hbox hb
                                      have BK385 := aM (hbox); have GW385 := gZ HB hg; have GE385 := gZ HB hg; have NB366_385 := nG BK366 hg; have NB385_366 := nH BK366 hg; have NB383_385 := nG BK383 hg; have NB385_383 := nH BK383 hg; replace BK366 := bB BK366 hb; replace BK383 := bB BK383 hb; replace HB := tB HB hb; clear hb hbox hg
                                      refine hK.out _ _ ⟨vZ0 BK366, vZ1 BK366, (hC HB hw372_0 :), (hC HB hw372_1 :)⟩ (fun hHeld => ?_)
                                      clear hK K
                                      refine nU ?_
                                      exact norm_ (by first | (simp only [putAll, Act.put, sI, sZ, sS]; done) | (simp only [putAll, Act.put, sI, sZ, sS]; rfl)) (hJ5_9_18_20 (gb383, gb385) _ ⟨hHeld, (gQ BK366), (gQ BK383), (gQ BK385), GW383.out, GE383.out, NB366_383.out, NB383_366.out, NB385_383.out, NB383_385.out, GW385.out, GE385.out, NB366_385.out, NB385_366.out, bE⟩)
                                   ·skip
                                    rintro _ w27 ⟨hS_, h0_, h1_⟩; (try dsimp only at hS_ h0_ h1_); clear BK366 HB; have BK366 := aM h0_; have HB := aM h1_; clear h0_ h1_; have hHeld := hS_
                                    refine norm_ (a' := ?_) ?_ ?_
                                    rotate_left
                                    ·simp only [putAll, Act.put, sI, sZ, sS]
                                     rfl
                                    refine four_ (i := 15) (j := 18) (k := 19) (m := 20) (Ni := some 39) (Nj := some 8) (Nk := some 9) (Nm := some 10) (bA 24 131071) (bA 24 360447) (bA 24 622591) (bA 24 1146879) rfl rfl rfl rfl rfl rfl rfl rfl (four_of HT_.out kR) (by decide) (by decide) (by decide) (by decide) (fun K hK => ?_) (fun K hK => ?_) (fun K hK => ?_) (fun K hK => ?_)
                                    ·skip
                                     refine goes_ Try.func106 kR rfl #[.slice (some ad372) l0.length c0, .int .i64 (wrap64 (x21_2 + 2))] (by rfl) rfl rfl sQ ?_
                                     with_reducible refine (impl_at.calls _ _ l0 (wrap64 (x21_2 + 2)) t379 t380 _ ?side1 ?side2 A19.out).mono ?_
                                     (case side1 => repeat (first | exact (Kd.C_below HR0.out HB.out) | (with_reducible refine cA ?_ _) | (with_reducible refine cN ?_ _) | (with_reducible refine cD ?_)))
                                     (case side2 => exact HC0.out)
                                     rintro e w28 ⟨rfl, hb⟩; refine ⟨_, rfl, ?_⟩; replace BK366 := bB BK366 hb; replace HB := tB HB hb; (try clear hb); (try clear hb2); (try clear hk); (try clear hi)
                                     refine hK.out _ _ ⟨vZ0 BK366, vZ1 BK366, (hC HB hw372_0 :), (hC HB hw372_1 :)⟩ (fun hHeld => ?_)
                                     clear hK K
                                     refine nU ?_
                                     exact norm_ (by first | (simp only [putAll, Act.put, sI, sZ, sS]; done) | (simp only [putAll, Act.put, sI, sZ, sS]; rfl)) (hJ5_9_11_15 () _ ⟨hHeld, (gQ BK366), bE⟩)
                                    ·skip
                                     refine box_step ?hg (N := 8) ?hd (cs := #[.int .i64 0, .int .i64 0]) (t := 50) ?hr ?_; (case hd => rfl); (case hg => rfl); (case hr => first | (go_simp; done) | (go_simp; rfl))
                                     intro gb383 hg w28 hbox hb
                                     have BK383 := aM (hbox); have GW383 := gZ HB hg; have GE383 := gZ HB hg; have NB366_383 := nG BK366 hg; have NB383_366 := nH BK366 hg; replace BK366 := bB BK366 hb; replace HB := tB HB hb; clear hb hbox hg
                                     refine hK.out _ _ ⟨vZ0 BK366, vZ1 BK366, (hC HB hw372_0 :), (hC HB hw372_1 :)⟩ (fun hHeld => ?_)
                                     clear hK K
                                     refine nU ?_
                                     exact norm_ (by first | (simp only [putAll, Act.put, sI, sZ, sS]; done) | (simp only [putAll, Act.put, sI, sZ, sS]; rfl)) (hJ5_9_11_18 (gb383) _ ⟨hHeld, (gQ BK366), (gQ BK383), GW383.out, GE383.out, NB366_383.out, NB383_366.out, bE⟩)
                                    ·skip
                                     refine box_step ?hg (N := 9) ?hd (cs := #[.int .i64 0, .int .i64 0]) (t := 50) ?hr ?_; (case hd => rfl); (case hg => rfl); (case hr => first | (go_simp; done) | (go_simp; rfl))
                                     intro gb384 hg w28 hbox hb
                                     have BK384 := aM (hbox); have GW384 := gZ HB hg; have GE384 := gZ HB hg; have NB366_384 := nG BK366 hg; have NB384_366 := nH BK366 hg; replace BK366 := bB BK366 hb; replace HB := tB HB hb; clear hb hbox hg
                                     refine hK.out _ _ ⟨vZ0 BK366, vZ1 BK366, (hC HB hw372_0 :), (hC HB hw372_1 :)⟩ (fun hHeld => ?_)
                                     clear hK K
                                     refine nU ?_
                                     exact norm_ (by first | (simp only [putAll, Act.put, sI, sZ, sS]; done) | (simp only [putAll, Act.put, sI, sZ, sS]; rfl)) (hJ5_9_11_19 (gb384) _ ⟨hHeld, (gQ BK366), (gQ BK384), GW384.out, GE384.out, NB366_384.out, NB384_366.out, bE⟩)
                                    ·skip
                                     refine box_step ?hg (N := 10) ?hd (cs := #[.int .i64 0, .int .i64 0]) (t := 50) ?hr ?_; (case hd => rfl); (case hg => rfl); (case hr => first | (go_simp; done) | (go_simp; rfl))
                                     intro gb385 hg w28 hbox hb
                                     have BK385 := aM (hbox); have GW385 := gZ HB hg; have GE385 := gZ HB hg; have NB366_385 := nG BK366 hg; have NB385_366 := nH BK366 hg; replace BK366 := bB BK366 hb; replace HB := tB HB hb; clear hb hbox hg
                                     refine hK.out _ _ ⟨vZ0 BK366, vZ1 BK366, (hC HB hw372_0 :), (hC HB hw372_1 :)⟩ (fun hHeld => ?_)
                                     clear hK K
                                     refine nU ?_
                                     exact norm_ (by first | (simp only [putAll, Act.put, sI, sZ, sS]; done) | (simp only [putAll, Act.put, sI, sZ, sS]; rfl)) (hJ5_9_11_20 (gb385) _ ⟨hHeld, (gQ BK366), (gQ BK385), GW385.out, GE385.out, NB366_385.out, NB385_366.out, bE⟩)
                                  ·skip
                                   rintro ⟨gb383, gb384, gb385⟩ w28 ⟨hS_, h0_, h1_, h2_, h3_, h4_, h5_, h6_, h7_, h8_, h9_, h10_, h11_, h12_, h13_, h14_, h15_, h16_, h17_, h18_, h19_, h20_, h21_, h22_⟩; (try dsimp only at hS_ h0_ h1_ h2_ h3_ h4_ h5_ h6_ h7_ h8_ h9_ h10_ h11_ h12_ h13_ h14_ h15_ h16_ h17_ h18_ h19_ h20_ h21_ h22_); clear BK366 HB; have BK366 := aM h0_; have BK383 := aM h1_; have BK384 := aM h2_; have BK385 := aM h3_; have GW383 := aM h4_; have GE383 := aM h5_; have NB366_383 := aM h6_; have NB383_366 := aM h7_; have NB384_383 := aM h8_; have NB383_384 := aM h9_; have NB385_383 := aM h10_; have NB383_385 := aM h11_; have GW384 := aM h12_; have GE384 := aM h13_; have NB366_384 := aM h14_; have NB384_366 := aM h15_; have NB385_384 := aM h16_; have NB384_385 := aM h17_; have GW385 := aM h18_; have GE385 := aM h19_; have NB366_385 := aM h20_; have NB385_366 := aM h21_; have HB := aM h22_; clear h0_ h1_ h2_ h3_ h4_ h5_ h6_ h7_ h8_ h9_ h10_ h11_ h12_ h13_ h14_ h15_ h16_ h17_ h18_ h19_ h20_ h21_ h22_; have hHeld := hS_
                                   refine norm_ (a' := ?_) ?_ ?_
                                   rotate_left
                                   ·simp only [putAll, Act.put, sI, sZ, sS]
                                    rfl
                                   refine oU 9 33 (bA 24 1931263) HT_ (fun K hK => ?_)
                                   refine goes_ Try.func106 kR rfl #[.slice (some ad372) l0.length c0, .int .i64 (wrap64 (x21_2 + 1))] (by rfl) rfl rfl sQ ?_
                                   with_reducible refine (impl_at.calls _ _ l0 (wrap64 (x21_2 + 1)) t375 t376 _ ?side1 ?side2 A17.out).mono ?_
                                   (case side1 => repeat (first | exact (Kd.C_below HR0.out HB.out) | (with_reducible refine cA ?_ _) | (with_reducible refine cN ?_ _) | (with_reducible refine cD ?_)))
                                   (case side2 => exact HC0.out)
                                   rintro e w29 ⟨rfl, hb⟩; refine ⟨_, rfl, ?_⟩; replace BK366 := bB BK366 hb; replace BK383 := bB BK383 hb; replace BK384 := bB BK384 hb; replace BK385 := bB BK385 hb; replace HB := tB HB hb; (try clear hb); (try clear hb2); (try clear hk); (try clear hi)
                                   refine hK.out _ _ ⟨vZ0 BK366, vZ1 BK366, (hC HB hw372_0 :), (hC HB hw372_1 :)⟩ (fun hHeld => ?_)
                                   clear hK K
                                   refine nU ?_
                                   exact norm_ (by first | (simp only [putAll, Act.put, sI, sZ, sS]; done) | (simp only [putAll, Act.put, sI, sZ, sS]; rfl)) (hJ5_9_18_19_20 (gb383, gb384, gb385) _ ⟨hHeld, (gQ BK366), (gQ BK383), (gQ BK384), (gQ BK385), GW383.out, GE383.out, NB366_383.out, NB383_366.out, NB384_383.out, NB383_384.out, NB385_383.out, NB383_385.out, GW384.out, GE384.out, NB366_384.out, NB384_366.out, NB385_384.out, NB384_385.out, GW385.out, GE385.out, NB366_385.out, NB385_366.out, bE⟩)
                                 ·skip
                                  rintro ⟨gb384, gb385⟩ w28 ⟨hS_, h0_, h1_, h2_, h3_, h4_, h5_, h6_, h7_, h8_, h9_, h10_, h11_, h12_, h13_⟩; (try dsimp only at hS_ h0_ h1_ h2_ h3_ h4_ h5_ h6_ h7_ h8_ h9_ h10_ h11_ h12_ h13_); clear BK366 HB; have BK366 := aM h0_; have BK384 := aM h1_; have BK385 := aM h2_; have GW384 := aM h3_; have GE384 := aM h4_; have NB366_384 := aM h5_; have NB384_366 := aM h6_; have NB385_384 := aM h7_; have NB384_385 := aM h8_; have GW385 := aM h9_; have GE385 := aM h10_; have NB366_385 := aM h11_; have NB385_366 := aM h12_; have HB := aM h13_; clear h0_ h1_ h2_ h3_ h4_ h5_ h6_ h7_ h8_ h9_ h10_ h11_ h12_ h13_; have hHeld := hS_
                                  refine norm_ (a' := ?_) ?_ ?_
                                  rotate_left
                                  ·simp only [putAll, Act.put, sI, sZ, sS]
                                   rfl
                                  refine two_ (i := 11) (j := 18) (Ni := some 35) (Nj := some 8) (bA 24 1671167) (bA 24 1931263) rfl rfl rfl rfl (two_of HT_.out kR) (by decide) (by decide) (fun K hK => ?_) (fun K hK => ?_)
                                  ·skip
                                   refine goes_ Try.func65 kR rfl #[.agg #[.int .i64 t375, .int .i64 t376], .agg #[.int .i64 a1_0, .int .i64 a1_1]] (by rfl) rfl rfl sQ ?_
                                   with_reducible refine (impl_Peg_less.calls t375 t376 a1_0 a1_1 t377 t378 _ A18.out).mono ?_
                                   rintro e w29 ⟨rfl, hb⟩; refine ⟨_, rfl, ?_⟩; replace BK366 := bB BK366 hb; replace BK384 := bB BK384 hb; replace BK385 := bB BK385 hb; replace HB := tB HB hb; (try clear hb); (try clear hb2); (try clear hk); (try clear hi)
                                   refine hK.out _ _ ⟨vZ0 BK366, vZ1 BK366, (hC HB hw372_0 :), (hC HB hw372_1 :)⟩ (fun hHeld => ?_)
                                   clear hK K
                                   refine nU ?_
                                   exact norm_ (by first | (simp only [putAll, Act.put, sI, sZ, sS]; done) | (simp only [putAll, Act.put, sI, sZ, sS]; rfl)) (hJ5_9_11_19_20 (gb384, gb385) _ ⟨hHeld, (gQ BK366), (gQ BK384), (gQ BK385), GW384.out, GE384.out, NB366_384.out, NB384_366.out, NB385_384.out, NB384_385.out, GW385.out, GE385.out, NB366_385.out, NB385_366.out, bE⟩)
                                  ·skip
                                   refine box_step ?hg (N := 8) ?hd (cs := #[.int .i64 0, .int .i64 0]) (t := 50) ?hr ?_; (case hd => rfl); (case hg => rfl); (case hr => first | (go_simp; done) | (go_simp; rfl))
                                   intro gb383 hg w29 hbox hb
                                   have BK383 := aM (hbox); have GW383 := gZ HB hg; have GE383 := gZ HB hg; have NB366_383 := nG BK366 hg; have NB383_366 := nH BK366 hg; have NB384_383 := nG BK384 hg; have NB383_384 := nH BK384 hg; have NB385_383 := nG BK385 hg; have NB383_385 := nH BK385 hg; replace BK366 := bB BK366 hb; replace BK384 := bB BK384 hb; replace BK385 := bB BK385 hb; replace HB := tB HB hb; clear hb hbox hg
                                   refine hK.out _ _ ⟨vZ0 BK366, vZ1 BK366, (hC HB hw372_0 :), (hC HB hw372_1 :)⟩ (fun hHeld => ?_)
                                   clear hK K
                                   refine nU ?_
                                   exact norm_ (by first | (simp only [putAll, Act.put, sI, sZ, sS]; done) | (simp only [putAll, Act.put, sI, sZ, sS]; rfl)) (hJ5_9_18_19_20 (gb383, gb384, gb385) _ ⟨hHeld, (gQ BK366), (gQ BK383), (gQ BK384), (gQ BK385), GW383.out, GE383.out, NB366_383.out, NB383_366.out, NB384_383.out, NB383_384.out, NB385_383.out, NB383_385.out, GW384.out, GE384.out, NB366_384.out, NB384_366.out, NB385_384.out, NB384_385.out, GW385.out, GE385.out, NB366_385.out, NB385_366.out, bE⟩)
                                ·skip
                                 rintro ⟨gb383, gb385⟩ w28 ⟨hS_, h0_, h1_, h2_, h3_, h4_, h5_, h6_, h7_, h8_, h9_, h10_, h11_, h12_, h13_⟩; (try dsimp only at hS_ h0_ h1_ h2_ h3_ h4_ h5_ h6_ h7_ h8_ h9_ h10_ h11_ h12_ h13_); clear BK366 HB; have BK366 := aM h0_; have BK383 := aM h1_; have BK385 := aM h2_; have GW383 := aM h3_; have GE383 := aM h4_; have NB366_383 := aM h5_; have NB383_366 := aM h6_; have NB385_383 := aM h7_; have NB383_385 := aM h8_; have GW385 := aM h9_; have GE385 := aM h10_; have NB366_385 := aM h11_; have NB385_366 := aM h12_; have HB := aM h13_; clear h0_ h1_ h2_ h3_ h4_ h5_ h6_ h7_ h8_ h9_ h10_ h11_ h12_ h13_; have hHeld := hS_
                                 refine norm_ (a' := ?_) ?_ ?_
                                 rotate_left
                                 ·simp only [putAll, Act.put, sI, sZ, sS]
                                  rfl
                                 refine two_ (i := 11) (j := 19) (Ni := some 35) (Nj := some 9) (bA 24 1409023) (bA 24 1931263) rfl rfl rfl rfl (two_of HT_.out kR) (by decide) (by decide) (fun K hK => ?_) (fun K hK => ?_)
                                 ·skip
                                  refine goes_ Try.func65 kR rfl #[.agg #[.int .i64 t375, .int .i64 t376], .agg #[.int .i64 a1_0, .int .i64 a1_1]] (by rfl) rfl rfl sQ ?_
                                  with_reducible refine (impl_Peg_less.calls t375 t376 a1_0 a1_1 t377 t378 _ A18.out).mono ?_
                                  rintro e w29 ⟨rfl, hb⟩; refine ⟨_, rfl, ?_⟩; replace BK366 := bB BK366 hb; replace BK383 := bB BK383 hb; replace BK385 := bB BK385 hb; replace HB := tB HB hb; (try clear hb); (try clear hb2); (try clear hk); (try clear hi)
                                  refine hK.out _ _ ⟨vZ0 BK366, vZ1 BK366, (hC HB hw372_0 :), (hC HB hw372_1 :)⟩ (fun hHeld => ?_)
                                  clear hK K
                                  refine nU ?_
                                  exact norm_ (by first | (simp only [putAll, Act.put, sI, sZ, sS]; done) | (simp only [putAll, Act.put, sI, sZ, sS]; rfl)) (hJ5_9_11_18_20 (gb383, gb385) _ ⟨hHeld, (gQ BK366), (gQ BK383), (gQ BK385), GW383.out, GE383.out, NB366_383.out, NB383_366.out, NB385_383.out, NB383_385.out, GW385.out, GE385.out, NB366_385.out, NB385_366.out, bE⟩)
                                 ·skip
                                  refine box_step ?hg (N := 9) ?hd (cs := #[.int .i64 0, .int .i64 0]) (t := 50) ?hr ?_; (case hd => rfl); (case hg => rfl); (case hr => first | (go_simp; done) | (go_simp; rfl))
                                  intro gb384 hg w29 hbox hb
                                  have BK384 := aM (hbox); have GW384 := gZ HB hg; have GE384 := gZ HB hg; have NB366_384 := nG BK366 hg; have NB384_366 := nH BK366 hg; have NB383_384 := nG BK383 hg; have NB384_383 := nH BK383 hg; have NB385_384 := nG BK385 hg; have NB384_385 := nH BK385 hg; replace BK366 := bB BK366 hb; replace BK383 := bB BK383 hb; replace BK385 := bB BK385 hb; replace HB := tB HB hb; clear hb hbox hg
                                  refine hK.out _ _ ⟨vZ0 BK366, vZ1 BK366, (hC HB hw372_0 :), (hC HB hw372_1 :)⟩ (fun hHeld => ?_)
                                  clear hK K
                                  refine nU ?_
                                  exact norm_ (by first | (simp only [putAll, Act.put, sI, sZ, sS]; done) | (simp only [putAll, Act.put, sI, sZ, sS]; rfl)) (hJ5_9_18_19_20 (gb383, gb384, gb385) _ ⟨hHeld, (gQ BK366), (gQ BK383), (gQ BK384), (gQ BK385), GW383.out, GE383.out, NB366_383.out, NB383_366.out, NB384_383.out, NB383_384.out, NB385_383.out, NB383_385.out, GW384.out, GE384.out, NB366_384.out, NB384_366.out, NB385_384.out, NB384_385.out, GW385.out, GE385.out, NB366_385.out, NB385_366.out, bE⟩)
                               ·skip
                                rintro ⟨gb383, gb384⟩ w28 ⟨hS_, h0_, h1_, h2_, h3_, h4_, h5_, h6_, h7_, h8_, h9_, h10_, h11_, h12_, h13_⟩; (try dsimp only at hS_ h0_ h1_ h2_ h3_ h4_ h5_ h6_ h7_ h8_ h9_ h10_ h11_ h12_ h13_); clear BK366 HB; have BK366 := aM h0_; have BK383 := aM h1_; have BK384 := aM h2_; have GW383 := aM h3_; have GE383 := aM h4_; have NB366_383 := aM h5_; have NB383_366 := aM h6_; have NB384_383 := aM h7_; have NB383_384 := aM h8_; have GW384 := aM h9_; have GE384 := aM h10_; have NB366_384 := aM h11_; have NB384_366 := aM h12_; have HB := aM h13_; clear h0_ h1_ h2_ h3_ h4_ h5_ h6_ h7_ h8_ h9_ h10_ h11_ h12_ h13_; have hHeld := hS_
                                refine norm_ (a' := ?_) ?_ ?_
                                rotate_left
                                ·simp only [putAll, Act.put, sI, sZ, sS]
                                 rfl
                                refine two_ (i := 11) (j := 20) (Ni := some 35) (Nj := some 10) (bA 24 884735) (bA 24 1931263) rfl rfl rfl rfl (two_of HT_.out kR) (by decide) (by decide) (fun K hK => ?_) (fun K hK => ?_)
                                ·skip
                                 refine goes_ Try.func65 kR rfl #[.agg #[.int .i64 t375, .int .i64 t376], .agg #[.int .i64 a1_0, .int .i64 a1_1]] (by rfl) rfl rfl sQ ?_
                                 with_reducible refine (impl_Peg_less.calls t375 t376 a1_0 a1_1 t377 t378 _ A18.out).mono ?_
                                 rintro e w29 ⟨rfl, hb⟩; refine ⟨_, rfl, ?_⟩; replace BK366 := bB BK366 hb; replace BK383 := bB BK383 hb; replace BK384 := bB BK384 hb; replace HB := tB HB hb; (try clear hb); (try clear hb2); (try clear hk); (try clear hi)
                                 refine hK.out _ _ ⟨vZ0 BK366, vZ1 BK366, (hC HB hw372_0 :), (hC HB hw372_1 :)⟩ (fun hHeld => ?_)
                                 clear hK K
                                 refine nU ?_
                                 exact norm_ (by first | (simp only [putAll, Act.put, sI, sZ, sS]; done) | (simp only [putAll, Act.put, sI, sZ, sS]; rfl)) (hJ5_9_11_18_19 (gb383, gb384) _ ⟨hHeld, (gQ BK366), (gQ BK383), (gQ BK384), GW383.out, GE383.out, NB366_383.out, NB383_366.out, NB384_383.out, NB383_384.out, GW384.out, GE384.out, NB366_384.out, NB384_366.out, bE⟩)
                                ·skip
                                 refine box_step ?hg (N := 10) ?hd (cs := #[.int .i64 0, .int .i64 0]) (t := 50) ?hr ?_; (case hd => rfl); (case hg => rfl); (case hr => first | (go_simp; done) | (go_simp; rfl))
                                 intro gb385 hg w29 hbox hb
                                 have BK385 := aM (hbox); have GW385 := gZ HB hg; have GE385 := gZ HB hg; have NB366_385 := nG BK366 hg; have NB385_366 := nH BK366 hg; have NB383_385 := nG BK383 hg; have NB385_383 := nH BK383 hg; have NB384_385 := nG BK384 hg; have NB385_384 := nH BK384 hg; replace BK366 := bB BK366 hb; replace BK383 := bB BK383 hb; replace BK384 := bB BK384 hb; replace HB := tB HB hb; clear hb hbox hg
                                 refine hK.out _ _ ⟨vZ0 BK366, vZ1 BK366, (hC HB hw372_0 :), (hC HB hw372_1 :)⟩ (fun hHeld => ?_)
                                 clear hK K
                                 refine nU ?_
                                 exact norm_ (by first | (simp only [putAll, Act.put, sI, sZ, sS]; done) | (simp only [putAll, Act.put, sI, sZ, sS]; rfl)) (hJ5_9_18_19_20 (gb383, gb384, gb385) _ ⟨hHeld, (gQ BK366), (gQ BK383), (gQ BK384), (gQ BK385), GW383.out, GE383.out, NB366_383.out, NB383_366.out, NB384_383.out, NB383_384.out, NB385_383.out, NB383_385.out, GW384.out, GE384.out, NB366_384.out, NB384_366.out, NB385_384.out, NB384_385.out, GW385.out, GE385.out, NB366_385.out, NB385_366.out, bE⟩)
                              ·skip
                               rintro gb385 w28 ⟨hS_, h0_, h1_, h2_, h3_, h4_, h5_, h6_⟩; (try dsimp only at hS_ h0_ h1_ h2_ h3_ h4_ h5_ h6_); clear BK366 HB; have BK366 := aM h0_; have BK385 := aM h1_; have GW385 := aM h2_; have GE385 := aM h3_; have NB366_385 := aM h4_; have NB385_366 := aM h5_; have HB := aM h6_; clear h0_ h1_ h2_ h3_ h4_ h5_ h6_; have hHeld := hS_
                               refine norm_ (a' := ?_) ?_ ?_
                               rotate_left
                               ·simp only [putAll, Act.put, sI, sZ, sS]
                                rfl
                               refine three_ (i := 15) (j := 18) (k := 19) (Ni := some 39) (Nj := some 8) (Nk := some 9) (bA 24 1179647) (bA 24 1409023) (bA 24 1671167) rfl rfl rfl rfl rfl rfl (three_of HT_.out kR) (by decide) (by decide) (by decide) (fun K hK => ?_) (fun K hK => ?_) (fun K hK => ?_)
                               ·skip
                                refine goes_ Try.func106 kR rfl #[.slice (some ad372) l0.length c0, .int .i64 (wrap64 (x21_2 + 2))] (by rfl) rfl rfl sQ ?_
                                with_reducible refine (impl_at.calls _ _ l0 (wrap64 (x21_2 + 2)) t379 t380 _ ?side1 ?side2 A19.out).mono ?_
                                (case side1 => repeat (first | exact (Kd.C_below HR0.out HB.out) | (with_reducible refine cA ?_ _) | (with_reducible refine cN ?_ _) | (with_reducible refine cD ?_)))
                                (case side2 => exact HC0.out)
                                rintro e w29 ⟨rfl, hb⟩; refine ⟨_, rfl, ?_⟩; replace BK366 := bB BK366 hb; replace BK385 := bB BK385 hb; replace HB := tB HB hb; (try clear hb); (try clear hb2); (try clear hk); (try clear hi)
                                refine hK.out _ _ ⟨vZ0 BK366, vZ1 BK366, (hC HB hw372_0 :), (hC HB hw372_1 :)⟩ (fun hHeld => ?_)
                                clear hK K
                                refine nU ?_
                                exact norm_ (by first | (simp only [putAll, Act.put, sI, sZ, sS]; done) | (simp only [putAll, Act.put, sI, sZ, sS]; rfl)) (hJ5_9_11_15_20 (gb385) _ ⟨hHeld, (gQ BK366), (gQ BK385), GW385.out, GE385.out, NB366_385.out, NB385_366.out, bE⟩)
                               ·skip
                                refine box_step ?hg (N := 8) ?hd (cs := #[.int .i64 0, .int .i64 0]) (t := 50) ?hr ?_; (case hd => rfl); (case hg => rfl); (case hr => first | (go_simp; done) | (go_simp; rfl))
                                intro gb383 hg w29 hbox hb
                                have BK383 := aM (hbox); have GW383 := gZ HB hg; have GE383 := gZ HB hg; have NB366_383 := nG BK366 hg; have NB383_366 := nH BK366 hg; have NB385_383 := nG BK385 hg; have NB383_385 := nH BK385 hg; replace BK366 := bB BK366 hb; replace BK385 := bB BK385 hb; replace HB := tB HB hb; clear hb hbox hg
                                refine hK.out _ _ ⟨vZ0 BK366, vZ1 BK366, (hC HB hw372_0 :), (hC HB hw372_1 :)⟩ (fun hHeld => ?_)
                                clear hK K
                                refine nU ?_
                                exact norm_ (by first | (simp only [putAll, Act.put, sI, sZ, sS]; done) | (simp only [putAll, Act.put, sI, sZ, sS]; rfl)) (hJ5_9_11_18_20 (gb383, gb385) _ ⟨hHeld, (gQ BK366), (gQ BK383), (gQ BK385), GW383.out, GE383.out, NB366_383.out, NB383_366.out, NB385_383.out, NB383_385.out, GW385.out, GE385.out, NB366_385.out, NB385_366.out, bE⟩)
                               ·skip
                                refine box_step ?hg (N := 9) ?hd (cs := #[.int .i64 0, .int .i64 0]) (t := 50) ?hr ?_; (case hd => rfl); (case hg => rfl); (case hr => first | (go_simp; done) | (go_simp; rfl))
                                intro gb384 hg w29 hbox hb
                                have BK384 := aM (hbox); have GW384 := gZ HB hg; have GE384 := gZ HB hg; have NB366_384 := nG BK366 hg; have NB384_366 := nH BK366 hg; have NB385_384 := nG BK385 hg; have NB384_385 := nH BK385 hg; replace BK366 := bB BK366 hb; replace BK385 := bB BK385 hb; replace HB := tB HB hb; clear hb hbox hg
                                refine hK.out _ _ ⟨vZ0 BK366, vZ1 BK366, (hC HB hw372_0 :), (hC HB hw372_1 :)⟩ (fun hHeld => ?_)
                                clear hK K
                                refine nU ?_
                                exact norm_ (by first | (simp only [putAll, Act.put, sI, sZ, sS]; done) | (simp only [putAll, Act.put, sI, sZ, sS]; rfl)) (hJ5_9_11_19_20 (gb384, gb385) _ ⟨hHeld, (gQ BK366), (gQ BK384), (gQ BK385), GW384.out, GE384.out, NB366_384.out, NB384_366.out, NB385_384.out, NB384_385.out, GW385.out, GE385.out, NB366_385.out, NB385_366.out, bE⟩)
                             ·skip
                              rintro gb384 w28 ⟨hS_, h0_, h1_, h2_, h3_, h4_, h5_, h6_⟩; (try dsimp only at hS_ h0_ h1_ h2_ h3_ h4_ h5_ h6_); clear BK366 HB; have BK366 := aM h0_; have BK384 := aM h1_; have GW384 := aM h2_; have GE384 := aM h3_; have NB366_384 := aM h4_; have NB384_366 := aM h5_; have HB := aM h6_; clear h0_ h1_ h2_ h3_ h4_ h5_ h6_; have hHeld := hS_
                              refine norm_ (a' := ?_) ?_ ?_
                              rotate_left
                              ·simp only [putAll, Act.put, sI, sZ, sS]
                               rfl
                              refine three_ (i := 15) (j := 18) (k := 20) (Ni := some 39) (Nj := some 8) (Nk := some 10) (bA 24 655359) (bA 24 884735) (bA 24 1671167) rfl rfl rfl rfl rfl rfl (three_of HT_.out kR) (by decide) (by decide) (by decide) (fun K hK => ?_) (fun K hK => ?_) (fun K hK => ?_)
                              ·skip
                               refine goes_ Try.func106 kR rfl #[.slice (some ad372) l0.length c0, .int .i64 (wrap64 (x21_2 + 2))] (by rfl) rfl rfl sQ ?_
                               with_reducible refine (impl_at.calls _ _ l0 (wrap64 (x21_2 + 2)) t379 t380 _ ?side1 ?side2 A19.out).mono ?_
                               (case side1 => repeat (first | exact (Kd.C_below HR0.out HB.out) | (with_reducible refine cA ?_ _) | (with_reducible refine cN ?_ _) | (with_reducible refine cD ?_)))
                               (case side2 => exact HC0.out)
                               rintro e w29 ⟨rfl, hb⟩; refine ⟨_, rfl, ?_⟩; replace BK366 := bB BK366 hb; replace BK384 := bB BK384 hb; replace HB := tB HB hb; (try clear hb); (try clear hb2); (try clear hk); (try clear hi)
                               refine hK.out _ _ ⟨vZ0 BK366, vZ1 BK366, (hC HB hw372_0 :), (hC HB hw372_1 :)⟩ (fun hHeld => ?_)
                               clear hK K
                               refine nU ?_
                               exact norm_ (by first | (simp only [putAll, Act.put, sI, sZ, sS]; done) | (simp only [putAll, Act.put, sI, sZ, sS]; rfl)) (hJ5_9_11_15_19 (gb384) _ ⟨hHeld, (gQ BK366), (gQ BK384), GW384.out, GE384.out, NB366_384.out, NB384_366.out, bE⟩)
                              ·skip
                               refine box_step ?hg (N := 8) ?hd (cs := #[.int .i64 0, .int .i64 0]) (t := 50) ?hr ?_; (case hd => rfl); (case hg => rfl); (case hr => first | (go_simp; done) | (go_simp; rfl))
                               intro gb383 hg w29 hbox hb
                               have BK383 := aM (hbox); have GW383 := gZ HB hg; have GE383 := gZ HB hg; have NB366_383 := nG BK366 hg; have NB383_366 := nH BK366 hg; have NB384_383 := nG BK384 hg; have NB383_384 := nH BK384 hg; replace BK366 := bB BK366 hb; replace BK384 := bB BK384 hb; replace HB := tB HB hb; clear hb hbox hg
                               refine hK.out _ _ ⟨vZ0 BK366, vZ1 BK366, (hC HB hw372_0 :), (hC HB hw372_1 :)⟩ (fun hHeld => ?_)
                               clear hK K
                               refine nU ?_
                               exact norm_ (by first | (simp only [putAll, Act.put, sI, sZ, sS]; done) | (simp only [putAll, Act.put, sI, sZ, sS]; rfl)) (hJ5_9_11_18_19 (gb383, gb384) _ ⟨hHeld, (gQ BK366), (gQ BK383), (gQ BK384), GW383.out, GE383.out, NB366_383.out, NB383_366.out, NB384_383.out, NB383_384.out, GW384.out, GE384.out, NB366_384.out, NB384_366.out, bE⟩)
                              ·skip
                               refine box_step ?hg (N := 10) ?hd (cs := #[.int .i64 0, .int .i64 0]) (t := 50) ?hr ?_; (case hd => rfl); (case hg => rfl); (case hr => first | (go_simp; done) | (go_simp; rfl))
                               intro gb385 hg w29 hbox hb
                               have BK385 := aM (hbox); have GW385 := gZ HB hg; have GE385 := gZ HB hg; have NB366_385 := nG BK366 hg; have NB385_366 := nH BK366 hg; have NB384_385 := nG BK384 hg; have NB385_384 := nH BK384 hg; replace BK366 := bB BK366 hb; replace BK384 := bB BK384 hb; replace HB := tB HB hb; clear hb hbox hg
                               refine hK.out _ _ ⟨vZ0 BK366, vZ1 BK366, (hC HB hw372_0 :), (hC HB hw372_1 :)⟩ (fun hHeld => ?_)
                               clear hK K
                               refine nU ?_
                               exact norm_ (by first | (simp only [putAll, Act.put, sI, sZ, sS]; done) | (simp only [putAll, Act.put, sI, sZ, sS]; rfl)) (hJ5_9_11_19_20 (gb384, gb385) _ ⟨hHeld, (gQ BK366), (gQ BK384), (gQ BK385), GW384.out, GE384.out, NB366_384.out, NB384_366.out, NB385_384.out, NB384_385.out, GW385.out, GE385.out, NB366_385.out, NB385_366.out, bE⟩)
                            ·skip
                             rintro gb383 w28 ⟨hS_, h0_, h1_, h2_, h3_, h4_, h5_, h6_⟩; (try dsimp only at hS_ h0_ h1_ h2_ h3_ h4_ h5_ h6_); clear BK366 HB; have BK366 := aM h0_; have BK383 := aM h1_; have GW383 := aM h2_; have GE383 := aM h3_; have NB366_383 := aM h4_; have NB383_366 := aM h5_; have HB := aM h6_; clear h0_ h1_ h2_ h3_ h4_ h5_ h6_; have hHeld := hS_
                             refine norm_ (a' := ?_) ?_ ?_
                             rotate_left
                             ·simp only [putAll, Act.put, sI, sZ, sS]
                              rfl
                             refine three_ (i := 15) (j := 19) (k := 20) (Ni := some 39) (Nj := some 9) (Nk := some 10) (bA 24 393215) (bA 24 884735) (bA 24 1409023) rfl rfl rfl rfl rfl rfl (three_of HT_.out kR) (by decide) (by decide) (by decide) (fun K hK => ?_) (fun K hK => ?_) (fun K hK => ?_)
                             ·skip
                              refine goes_ Try.func106 kR rfl #[.slice (some ad372) l0.length c0, .int .i64 (wrap64 (x21_2 + 2))] (by rfl) rfl rfl sQ ?_
                              with_reducible refine (impl_at.calls _ _ l0 (wrap64 (x21_2 + 2)) t379 t380 _ ?side1 ?side2 A19.out).mono ?_
                              (case side1 => repeat (first | exact (Kd.C_below HR0.out HB.out) | (with_reducible refine cA ?_ _) | (with_reducible refine cN ?_ _) | (with_reducible refine cD ?_)))
                              (case side2 => exact HC0.out)
                              rintro e w29 ⟨rfl, hb⟩; refine ⟨_, rfl, ?_⟩; replace BK366 := bB BK366 hb; replace BK383 := bB BK383 hb; replace HB := tB HB hb; (try clear hb); (try clear hb2); (try clear hk); (try clear hi)
                              refine hK.out _ _ ⟨vZ0 BK366, vZ1 BK366, (hC HB hw372_0 :), (hC HB hw372_1 :)⟩ (fun hHeld => ?_)
                              clear hK K
                              refine nU ?_
                              exact norm_ (by first | (simp only [putAll, Act.put, sI, sZ, sS]; done) | (simp only [putAll, Act.put, sI, sZ, sS]; rfl)) (hJ5_9_11_15_18 (gb383) _ ⟨hHeld, (gQ BK366), (gQ BK383), GW383.out, GE383.out, NB366_383.out, NB383_366.out, bE⟩)
                             ·skip
                              refine box_step ?hg (N := 9) ?hd (cs := #[.int .i64 0, .int .i64 0]) (t := 50) ?hr ?_; (case hd => rfl); (case hg => rfl); (case hr => first | (go_simp; done) | (go_simp; rfl))
                              intro gb384 hg w29 hbox hb
                              have BK384 := aM (hbox); have GW384 := gZ HB hg; have GE384 := gZ HB hg; have NB366_384 := nG BK366 hg; have NB384_366 := nH BK366 hg; have NB383_384 := nG BK383 hg; have NB384_383 := nH BK383 hg; replace BK366 := bB BK366 hb; replace BK383 := bB BK383 hb; replace HB := tB HB hb; clear hb hbox hg
                              refine hK.out _ _ ⟨vZ0 BK366, vZ1 BK366, (hC HB hw372_0 :), (hC HB hw372_1 :)⟩ (fun hHeld => ?_)
                              clear hK K
                              refine nU ?_
                              exact norm_ (by first | (simp only [putAll, Act.put, sI, sZ, sS]; done) | (simp only [putAll, Act.put, sI, sZ, sS]; rfl)) (hJ5_9_11_18_19 (gb383, gb384) _ ⟨hHeld, (gQ BK366), (gQ BK383), (gQ BK384), GW383.out, GE383.out, NB366_383.out, NB383_366.out, NB384_383.out, NB383_384.out, GW384.out, GE384.out, NB366_384.out, NB384_366.out, bE⟩)
                             ·skip
                              refine box_step ?hg (N := 10) ?hd (cs := #[.int .i64 0, .int .i64 0]) (t := 50) ?hr ?_; (case hd => rfl); (case hg => rfl); (case hr => first | (go_simp; done) | (go_simp; rfl))
                              intro gb385 hg w29 hbox hb
                              have BK385 := aM (hbox); have GW385 := gZ HB hg; have GE385 := gZ HB hg; have NB366_385 := nG BK366 hg; have NB385_366 := nH BK366 hg; have NB383_385 := nG BK383 hg; have NB385_383 := nH BK383 hg; replace BK366 := bB BK366 hb; replace BK383 := bB BK383 hb; replace HB := tB HB hb; clear hb hbox hg
                              refine hK.out _ _ ⟨vZ0 BK366, vZ1 BK366, (hC HB hw372_0 :), (hC HB hw372_1 :)⟩ (fun hHeld => ?_)
                              clear hK K
                              refine nU ?_
                              exact norm_ (by first | (simp only [putAll, Act.put, sI, sZ, sS]; done) | (simp only [putAll, Act.put, sI, sZ, sS]; rfl)) (hJ5_9_11_18_20 (gb383, gb385) _ ⟨hHeld, (gQ BK366), (gQ BK383), (gQ BK385), GW383.out, GE383.out, NB366_383.out, NB383_366.out, NB385_383.out, NB383_385.out, GW385.out, GE385.out, NB366_385.out, NB385_366.out, bE⟩)
                           ·skip
                            rintro _ w28 ⟨hS_, h0_, h1_⟩; (try dsimp only at hS_ h0_ h1_); clear BK366 HB; have BK366 := aM h0_; have HB := aM h1_; clear h0_ h1_; have hHeld := hS_
                            refine norm_ (a' := ?_) ?_ ?_
                            rotate_left
                            ·simp only [putAll, Act.put, sI, sZ, sS]
                             rfl
                            refine four_ (i := 17) (j := 18) (k := 19) (m := 20) (Ni := some 41) (Nj := some 8) (Nk := some 9) (Nm := some 10) (bA 24 262143) (bA 24 393215) (bA 24 655359) (bA 24 1179647) rfl rfl rfl rfl rfl rfl rfl rfl (four_of HT_.out kR) (by decide) (by decide) (by decide) (by decide) (fun K hK => ?_) (fun K hK => ?_) (fun K hK => ?_) (fun K hK => ?_)
                            ·skip
                             refine goes_ Try.func65 kR rfl #[.agg #[.int .i64 t379, .int .i64 t380], .agg #[.int .i64 a1_0, .int .i64 a1_1]] (by rfl) rfl rfl sQ ?_
                             with_reducible refine (impl_Peg_less.calls t379 t380 a1_0 a1_1 t381 t382 _ A20.out).mono ?_
                             rintro e w29 ⟨rfl, hb⟩; refine ⟨_, rfl, ?_⟩; replace BK366 := bB BK366 hb; replace HB := tB HB hb; (try clear hb); (try clear hb2); (try clear hk); (try clear hi)
                             refine hK.out _ _ ⟨vZ0 BK366, vZ1 BK366, (hC HB hw372_0 :), (hC HB hw372_1 :)⟩ (fun hHeld => ?_)
                             clear hK K
                             refine nU ?_
                             exact norm_ (by first | (simp only [putAll, Act.put, sI, sZ, sS]; done) | (simp only [putAll, Act.put, sI, sZ, sS]; rfl)) (hJ5_9_11_15_17 () _ ⟨hHeld, (gQ BK366), bE⟩)
                            ·skip
                             refine box_step ?hg (N := 8) ?hd (cs := #[.int .i64 0, .int .i64 0]) (t := 50) ?hr ?_; (case hd => rfl); (case hg => rfl); (case hr => first | (go_simp; done) | (go_simp; rfl))
                             intro gb383 hg w29 hbox hb
                             have BK383 := aM (hbox); have GW383 := gZ HB hg; have GE383 := gZ HB hg; have NB366_383 := nG BK366 hg; have NB383_366 := nH BK366 hg; replace BK366 := bB BK366 hb; replace HB := tB HB hb; clear hb hbox hg
                             refine hK.out _ _ ⟨vZ0 BK366, vZ1 BK366, (hC HB hw372_0 :), (hC HB hw372_1 :)⟩ (fun hHeld => ?_)
                             clear hK K
                             refine nU ?_
                             exact norm_ (by first | (simp only [putAll, Act.put, sI, sZ, sS]; done) | (simp only [putAll, Act.put, sI, sZ, sS]; rfl)) (hJ5_9_11_15_18 (gb383) _ ⟨hHeld, (gQ BK366), (gQ BK383), GW383.out, GE383.out, NB366_383.out, NB383_366.out, bE⟩)
                            ·skip
                             refine box_step ?hg (N := 9) ?hd (cs := #[.int .i64 0, .int .i64 0]) (t := 50) ?hr ?_; (case hd => rfl); (case hg => rfl); (case hr => first | (go_simp; done) | (go_simp; rfl))
                             intro gb384 hg w29 hbox hb
                             have BK384 := aM (hbox); have GW384 := gZ HB hg; have GE384 := gZ HB hg; have NB366_384 := nG BK366 hg; have NB384_366 := nH BK366 hg; replace BK366 := bB BK366 hb; replace HB := tB HB hb; clear hb hbox hg
                             refine hK.out _ _ ⟨vZ0 BK366, vZ1 BK366, (hC HB hw372_0 :), (hC HB hw372_1 :)⟩ (fun hHeld => ?_)
                             clear hK K
                             refine nU ?_
                             exact norm_ (by first | (simp only [putAll, Act.put, sI, sZ, sS]; done) | (simp only [putAll, Act.put, sI, sZ, sS]; rfl)) (hJ5_9_11_15_19 (gb384) _ ⟨hHeld, (gQ BK366), (gQ BK384), GW384.out, GE384.out, NB366_384.out, NB384_366.out, bE⟩)
                            ·skip
                             refine box_step ?hg (N := 10) ?hd (cs := #[.int .i64 0, .int .i64 0]) (t := 50) ?hr ?_; (case hd => rfl); (case hg => rfl); (case hr => first | (go_simp; done) | (go_simp; rfl))
                             intro gb385 hg w29 hbox hb
                             have BK385 := aM (hbox); have GW385 := gZ HB hg; have GE385 := gZ HB hg; have NB366_385 := nG BK366 hg; have NB385_366 := nH BK366 hg; replace BK366 := bB BK366 hb; replace HB := tB HB hb; clear hb hbox hg
                             refine hK.out _ _ ⟨vZ0 BK366, vZ1 BK366, (hC HB hw372_0 :), (hC HB hw372_1 :)⟩ (fun hHeld => ?_)
                             clear hK K
                             refine nU ?_
                             exact norm_ (by first | (simp only [putAll, Act.put, sI, sZ, sS]; done) | (simp only [putAll, Act.put, sI, sZ, sS]; rfl)) (hJ5_9_11_15_20 (gb385) _ ⟨hHeld, (gQ BK366), (gQ BK385), GW385.out, GE385.out, NB366_385.out, NB385_366.out, bE⟩)
                          ·skip
                           rintro ⟨gb383, gb384, gb385⟩ w29 ⟨hS_, h0_, h1_, h2_, h3_, h4_, h5_, h6_, h7_, h8_, h9_, h10_, h11_, h12_, h13_, h14_, h15_, h16_, h17_, h18_, h19_, h20_, h21_, h22_⟩; (try dsimp only at hS_ h0_ h1_ h2_ h3_ h4_ h5_ h6_ h7_ h8_ h9_ h10_ h11_ h12_ h13_ h14_ h15_ h16_ h17_ h18_ h19_ h20_ h21_ h22_); clear BK366 HB; have BK366 := aM h0_; have BK383 := aM h1_; have BK384 := aM h2_; have BK385 := aM h3_; have GW383 := aM h4_; have GE383 := aM h5_; have NB366_383 := aM h6_; have NB383_366 := aM h7_; have NB384_383 := aM h8_; have NB383_384 := aM h9_; have NB385_383 := aM h10_; have NB383_385 := aM h11_; have GW384 := aM h12_; have GE384 := aM h13_; have NB366_384 := aM h14_; have NB384_366 := aM h15_; have NB385_384 := aM h16_; have NB384_385 := aM h17_; have GW385 := aM h18_; have GE385 := aM h19_; have NB366_385 := aM h20_; have NB385_366 := aM h21_; have HB := aM h22_; clear h0_ h1_ h2_ h3_ h4_ h5_ h6_ h7_ h8_ h9_ h10_ h11_ h12_ h13_ h14_ h15_ h16_ h17_ h18_ h19_ h20_ h21_ h22_; have hHeld := hS_
                           refine norm_ (a' := ?_) ?_ ?_
                           rotate_left
                           ·simp only [putAll, Act.put, sI, sZ, sS]
                            rfl
                           refine oU 11 35 (bA 24 1933311) HT_ (fun K hK => ?_)
                           refine goes_ Try.func65 kR rfl #[.agg #[.int .i64 t375, .int .i64 t376], .agg #[.int .i64 a1_0, .int .i64 a1_1]] (by rfl) rfl rfl sQ ?_
                           with_reducible refine (impl_Peg_less.calls t375 t376 a1_0 a1_1 t377 t378 _ A18.out).mono ?_
                           rintro e w30 ⟨rfl, hb⟩; refine ⟨_, rfl, ?_⟩; replace BK366 := bB BK366 hb; replace BK383 := bB BK383 hb; replace BK384 := bB BK384 hb; replace BK385 := bB BK385 hb; replace HB := tB HB hb; (try clear hb); (try clear hb2); (try clear hk); (try clear hi)
                           refine hK.out _ _ ⟨vZ0 BK366, vZ1 BK366, (hC HB hw372_0 :), (hC HB hw372_1 :)⟩ (fun hHeld => ?_)
                           clear hK K
                           refine nU ?_
                           exact norm_ (by first | (simp only [putAll, Act.put, sI, sZ, sS]; done) | (simp only [putAll, Act.put, sI, sZ, sS]; rfl)) (hJ5_9_11_18_19_20 (gb383, gb384, gb385) _ ⟨hHeld, (gQ BK366), (gQ BK383), (gQ BK384), (gQ BK385), GW383.out, GE383.out, NB366_383.out, NB383_366.out, NB384_383.out, NB383_384.out, NB385_383.out, NB383_385.out, GW384.out, GE384.out, NB366_384.out, NB384_366.out, NB385_384.out, NB384_385.out, GW385.out, GE385.out, NB366_385.out, NB385_366.out, bE⟩)
                         ·skip
                          rintro ⟨gb384, gb385⟩ w29 ⟨hS_, h0_, h1_, h2_, h3_, h4_, h5_, h6_, h7_, h8_, h9_, h10_, h11_, h12_, h13_⟩; (try dsimp only at hS_ h0_ h1_ h2_ h3_ h4_ h5_ h6_ h7_ h8_ h9_ h10_ h11_ h12_ h13_); clear BK366 HB; have BK366 := aM h0_; have BK384 := aM h1_; have BK385 := aM h2_; have GW384 := aM h3_; have GE384 := aM h4_; have NB366_384 := aM h5_; have NB384_366 := aM h6_; have NB385_384 := aM h7_; have NB384_385 := aM h8_; have GW385 := aM h9_; have GE385 := aM h10_; have NB366_385 := aM h11_; have NB385_366 := aM h12_; have HB := aM h13_; clear h0_ h1_ h2_ h3_ h4_ h5_ h6_ h7_ h8_ h9_ h10_ h11_ h12_ h13_; have hHeld := hS_
                          refine norm_ (a' := ?_) ?_ ?_
                          rotate_left
                          ·simp only [putAll, Act.put, sI, sZ, sS]
                           rfl
                          refine two_ (i := 15) (j := 18) (Ni := some 39) (Nj := some 8) (bA 24 1703935) (bA 24 1933311) rfl rfl rfl rfl (two_of HT_.out kR) (by decide) (by decide) (fun K hK => ?_) (fun K hK => ?_)
                          ·skip
                           refine goes_ Try.func106 kR rfl #[.slice (some ad372) l0.length c0, .int .i64 (wrap64 (x21_2 + 2))] (by rfl) rfl rfl sQ ?_
                           with_reducible refine (impl_at.calls _ _ l0 (wrap64 (x21_2 + 2)) t379 t380 _ ?side1 ?side2 A19.out).mono ?_
                           (case side1 => repeat (first | exact (Kd.C_below HR0.out HB.out) | (with_reducible refine cA ?_ _) | (with_reducible refine cN ?_ _) | (with_reducible refine cD ?_)))
                           (case side2 => exact HC0.out)
                           rintro e w30 ⟨rfl, hb⟩; refine ⟨_, rfl, ?_⟩; replace BK366 := bB BK366 hb; replace BK384 := bB BK384 hb; replace BK385 := bB BK385 hb; replace HB := tB HB hb; (try clear hb); (try clear hb2); (try clear hk); (try clear hi)
                           refine hK.out _ _ ⟨vZ0 BK366, vZ1 BK366, (hC HB hw372_0 :), (hC HB hw372_1 :)⟩ (fun hHeld => ?_)
                           clear hK K
                           refine nU ?_
                           exact norm_ (by first | (simp only [putAll, Act.put, sI, sZ, sS]; done) | (simp only [putAll, Act.put, sI, sZ, sS]; rfl)) (hJ5_9_11_15_19_20 (gb384, gb385) _ ⟨hHeld, (gQ BK366), (gQ BK384), (gQ BK385), GW384.out, GE384.out, NB366_384.out, NB384_366.out, NB385_384.out, NB384_385.out, GW385.out, GE385.out, NB366_385.out, NB385_366.out, bE⟩)
                          ·skip
                           refine box_step ?hg (N := 8) ?hd (cs := #[.int .i64 0, .int .i64 0]) (t := 50) ?hr ?_; (case hd => rfl); (case hg => rfl); (case hr => first | (go_simp; done) | (go_simp; rfl))
                           intro gb383 hg w30 hbox hb
                           have BK383 := aM (hbox); have GW383 := gZ HB hg; have GE383 := gZ HB hg; have NB366_383 := nG BK366 hg; have NB383_366 := nH BK366 hg; have NB384_383 := nG BK384 hg; have NB383_384 := nH BK384 hg; have NB385_383 := nG BK385 hg; have NB383_385 := nH BK385 hg; replace BK366 := bB BK366 hb; replace BK384 := bB BK384 hb; replace BK385 := bB BK385 hb; replace HB := tB HB hb; clear hb hbox hg
                           refine hK.out _ _ ⟨vZ0 BK366, vZ1 BK366, (hC HB hw372_0 :), (hC HB hw372_1 :)⟩ (fun hHeld => ?_)
                           clear hK K
                           refine nU ?_
                           exact norm_ (by first | (simp only [putAll, Act.put, sI, sZ, sS]; done) | (simp only [putAll, Act.put, sI, sZ, sS]; rfl)) (hJ5_9_11_18_19_20 (gb383, gb384, gb385) _ ⟨hHeld, (gQ BK366), (gQ BK383), (gQ BK384), (gQ BK385), GW383.out, GE383.out, NB366_383.out, NB383_366.out, NB384_383.out, NB383_384.out, NB385_383.out, NB383_385.out, GW384.out, GE384.out, NB366_384.out, NB384_366.out, NB385_384.out, NB384_385.out, GW385.out, GE385.out, NB366_385.out, NB385_366.out, bE⟩)
                        ·skip
                         rintro ⟨gb383, gb385⟩ w29 ⟨hS_, h0_, h1_, h2_, h3_, h4_, h5_, h6_, h7_, h8_, h9_, h10_, h11_, h12_, h13_⟩; (try dsimp only at hS_ h0_ h1_ h2_ h3_ h4_ h5_ h6_ h7_ h8_ h9_ h10_ h11_ h12_ h13_); clear BK366 HB; have BK366 := aM h0_; have BK383 := aM h1_; have BK385 := aM h2_; have GW383 := aM h3_; have GE383 := aM h4_; have NB366_383 := aM h5_; have NB383_366 := aM h6_; have NB385_383 := aM h7_; have NB383_385 := aM h8_; have GW385 := aM h9_; have GE385 := aM h10_; have NB366_385 := aM h11_; have NB385_366 := aM h12_; have HB := aM h13_; clear h0_ h1_ h2_ h3_ h4_ h5_ h6_ h7_ h8_ h9_ h10_ h11_ h12_ h13_; have hHeld := hS_
                         refine norm_ (a' := ?_) ?_ ?_
                         rotate_left
                         ·simp only [putAll, Act.put, sI, sZ, sS]
                          rfl
                         refine two_ (i := 15) (j := 19) (Ni := some 39) (Nj := some 9) (bA 24 1441791) (bA 24 1933311) rfl rfl rfl rfl (two_of HT_.out kR) (by decide) (by decide) (fun K hK => ?_) (fun K hK => ?_)
                         ·skip
                          refine goes_ Try.func106 kR rfl #[.slice (some ad372) l0.length c0, .int .i64 (wrap64 (x21_2 + 2))] (by rfl) rfl rfl sQ ?_
                          with_reducible refine (impl_at.calls _ _ l0 (wrap64 (x21_2 + 2)) t379 t380 _ ?side1 ?side2 A19.out).mono ?_
                          (case side1 => repeat (first | exact (Kd.C_below HR0.out HB.out) | (with_reducible refine cA ?_ _) | (with_reducible refine cN ?_ _) | (with_reducible refine cD ?_)))
                          (case side2 => exact HC0.out)
                          rintro e w30 ⟨rfl, hb⟩; refine ⟨_, rfl, ?_⟩; replace BK366 := bB BK366 hb; replace BK383 := bB BK383 hb; replace BK385 := bB BK385 hb; replace HB := tB HB hb; (try clear hb); (try clear hb2); (try clear hk); (try clear hi)
                          refine hK.out _ _ ⟨vZ0 BK366, vZ1 BK366, (hC HB hw372_0 :), (hC HB hw372_1 :)⟩ (fun hHeld => ?_)
                          clear hK K
                          refine nU ?_
                          exact norm_ (by first | (simp only [putAll, Act.put, sI, sZ, sS]; done) | (simp only [putAll, Act.put, sI, sZ, sS]; rfl)) (hJ5_9_11_15_18_20 (gb383, gb385) _ ⟨hHeld, (gQ BK366), (gQ BK383), (gQ BK385), GW383.out, GE383.out, NB366_383.out, NB383_366.out, NB385_383.out, NB383_385.out, GW385.out, GE385.out, NB366_385.out, NB385_366.out, bE⟩)
                         ·skip
                          refine box_step ?hg (N := 9) ?hd (cs := #[.int .i64 0, .int .i64 0]) (t := 50) ?hr ?_; (case hd => rfl); (case hg => rfl); (case hr => first | (go_simp; done) | (go_simp; rfl))
                          intro gb384 hg w30 hbox hb
                          have BK384 := aM (hbox); have GW384 := gZ HB hg; have GE384 := gZ HB hg; have NB366_384 := nG BK366 hg; have NB384_366 := nH BK366 hg; have NB383_384 := nG BK383 hg; have NB384_383 := nH BK383 hg; have NB385_384 := nG BK385 hg; have NB384_385 := nH BK385 hg; replace BK366 := bB BK366 hb; replace BK383 := bB BK383 hb; replace BK385 := bB BK385 hb; replace HB := tB HB hb; clear hb hbox hg
                          refine hK.out _ _ ⟨vZ0 BK366, vZ1 BK366, (hC HB hw372_0 :), (hC HB hw372_1 :)⟩ (fun hHeld => ?_)
                          clear hK K
                          refine nU ?_
                          exact norm_ (by first | (simp only [putAll, Act.put, sI, sZ, sS]; done) | (simp only [putAll, Act.put, sI, sZ, sS]; rfl)) (hJ5_9_11_18_19_20 (gb383, gb384, gb385) _ ⟨hHeld, (gQ BK366), (gQ BK383), (gQ BK384), (gQ BK385), GW383.out, GE383.out, NB366_383.out, NB383_366.out, NB384_383.out, NB383_384.out, NB385_383.out, NB383_385.out, GW384.out, GE384.out, NB366_384.out, NB384_366.out, NB385_384.out, NB384_385.out, GW385.out, GE385.out, NB366_385.out, NB385_366.out, bE⟩)
                       ·skip
                        rintro ⟨gb383, gb384⟩ w29 ⟨hS_, h0_, h1_, h2_, h3_, h4_, h5_, h6_, h7_, h8_, h9_, h10_, h11_, h12_, h13_⟩; (try dsimp only at hS_ h0_ h1_ h2_ h3_ h4_ h5_ h6_ h7_ h8_ h9_ h10_ h11_ h12_ h13_); clear BK366 HB; have BK366 := aM h0_; have BK383 := aM h1_; have BK384 := aM h2_; have GW383 := aM h3_; have GE383 := aM h4_; have NB366_383 := aM h5_; have NB383_366 := aM h6_; have NB384_383 := aM h7_; have NB383_384 := aM h8_; have GW384 := aM h9_; have GE384 := aM h10_; have NB366_384 := aM h11_; have NB384_366 := aM h12_; have HB := aM h13_; clear h0_ h1_ h2_ h3_ h4_ h5_ h6_ h7_ h8_ h9_ h10_ h11_ h12_ h13_; have hHeld := hS_
                        refine norm_ (a' := ?_) ?_ ?_
                        rotate_left
                        ·simp only [putAll, Act.put, sI, sZ, sS]
                         rfl
                        refine two_ (i := 15) (j := 20) (Ni := some 39) (Nj := some 10) (bA 24 917503) (bA 24 1933311) rfl rfl rfl rfl (two_of HT_.out kR) (by decide) (by decide) (fun K hK => ?_) (fun K hK => ?_)
                        ·skip
                         refine goes_ Try.func106 kR rfl #[.slice (some ad372) l0.length c0, .int .i64 (wrap64 (x21_2 + 2))] (by rfl) rfl rfl sQ ?_
                         with_reducible refine (impl_at.calls _ _ l0 (wrap64 (x21_2 + 2)) t379 t380 _ ?side1 ?side2 A19.out).mono ?_
                         (case side1 => repeat (first | exact (Kd.C_below HR0.out HB.out) | (with_reducible refine cA ?_ _) | (with_reducible refine cN ?_ _) | (with_reducible refine cD ?_)))
                         (case side2 => exact HC0.out)
                         rintro e w30 ⟨rfl, hb⟩; refine ⟨_, rfl, ?_⟩; replace BK366 := bB BK366 hb; replace BK383 := bB BK383 hb; replace BK384 := bB BK384 hb; replace HB := tB HB hb; (try clear hb); (try clear hb2); (try clear hk); (try clear hi)
                         refine hK.out _ _ ⟨vZ0 BK366, vZ1 BK366, (hC HB hw372_0 :), (hC HB hw372_1 :)⟩ (fun hHeld => ?_)
                         clear hK K
                         refine nU ?_
                         exact norm_ (by first | (simp only [putAll, Act.put, sI, sZ, sS]; done) | (simp only [putAll, Act.put, sI, sZ, sS]; rfl)) (hJ5_9_11_15_18_19 (gb383, gb384) _ ⟨hHeld, (gQ BK366), (gQ BK383), (gQ BK384), GW383.out, GE383.out, NB366_383.out, NB383_366.out, NB384_383.out, NB383_384.out, GW384.out, GE384.out, NB366_384.out, NB384_366.out, bE⟩)
                        ·skip
                         refine box_step ?hg (N := 10) ?hd (cs := #[.int .i64 0, .int .i64 0]) (t := 50) ?hr ?_; (case hd => rfl); (case hg => rfl); (case hr => first | (go_simp; done) | (go_simp; rfl))
                         intro gb385 hg w30 hbox hb
                         have BK385 := aM (hbox); have GW385 := gZ HB hg; have GE385 := gZ HB hg; have NB366_385 := nG BK366 hg; have NB385_366 := nH BK366 hg; have NB383_385 := nG BK383 hg; have NB385_383 := nH BK383 hg; have NB384_385 := nG BK384 hg; have NB385_384 := nH BK384 hg; replace BK366 := bB BK366 hb; replace BK383 := bB BK383 hb; replace BK384 := bB BK384 hb; replace HB := tB HB hb; clear hb hbox hg
                         refine hK.out _ _ ⟨vZ0 BK366, vZ1 BK366, (hC HB hw372_0 :), (hC HB hw372_1 :)⟩ (fun hHeld => ?_)
                         clear hK K
                         refine nU ?_
                         exact norm_ (by first | (simp only [putAll, Act.put, sI, sZ, sS]; done) | (simp only [putAll, Act.put, sI, sZ, sS]; rfl)) (hJ5_9_11_18_19_20 (gb383, gb384, gb385) _ ⟨hHeld, (gQ BK366), (gQ BK383), (gQ BK384), (gQ BK385), GW383.out, GE383.out, NB366_383.out, NB383_366.out, NB384_383.out, NB383_384.out, NB385_383.out, NB383_385.out, GW384.out, GE384.out, NB366_384.out, NB384_366.out, NB385_384.out, NB384_385.out, GW385.out, GE385.out, NB366_385.out, NB385_366.out, bE⟩)
                      ·skip
                       rintro gb385 w29 ⟨hS_, h0_, h1_, h2_, h3_, h4_, h5_, h6_⟩; (try dsimp only at hS_ h0_ h1_ h2_ h3_ h4_ h5_ h6_); clear BK366 HB; have BK366 := aM h0_; have BK385 := aM h1_; have GW385 := aM h2_; have GE385 := aM h3_; have NB366_385 := aM h4_; have NB385_366 := aM h5_; have HB := aM h6_; clear h0_ h1_ h2_ h3_ h4_ h5_ h6_; have hHeld := hS_
                       refine norm_ (a' := ?_) ?_ ?_
                       rotate_left
                       ·simp only [putAll, Act.put, sI, sZ, sS]
                        rfl
                       refine three_ (i := 17) (j := 18) (k := 19) (Ni := some 41) (Nj := some 8) (Nk := some 9) (bA 24 1310719) (bA 24 1441791) (bA 24 1703935) rfl rfl rfl rfl rfl rfl (three_of HT_.out kR) (by decide) (by decide) (by decide) (fun K hK => ?_) (fun K hK => ?_) (fun K hK => ?_)
                       ·skip
                        refine goes_ Try.func65 kR rfl #[.agg #[.int .i64 t379, .int .i64 t380], .agg #[.int .i64 a1_0, .int .i64 a1_1]] (by rfl) rfl rfl sQ ?_
                        with_reducible refine (impl_Peg_less.calls t379 t380 a1_0 a1_1 t381 t382 _ A20.out).mono ?_
                        rintro e w30 ⟨rfl, hb⟩; refine ⟨_, rfl, ?_⟩; replace BK366 := bB BK366 hb; replace BK385 := bB BK385 hb; replace HB := tB HB hb; (try clear hb); (try clear hb2); (try clear hk); (try clear hi)
                        refine hK.out _ _ ⟨vZ0 BK366, vZ1 BK366, (hC HB hw372_0 :), (hC HB hw372_1 :)⟩ (fun hHeld => ?_)
                        clear hK K
                        refine nU ?_
                        exact norm_ (by first | (simp only [putAll, Act.put, sI, sZ, sS]; done) | (simp only [putAll, Act.put, sI, sZ, sS]; rfl)) (hJ5_9_11_15_17_20 (gb385) _ ⟨hHeld, (gQ BK366), (gQ BK385), GW385.out, GE385.out, NB366_385.out, NB385_366.out, bE⟩)
                       ·skip
                        refine box_step ?hg (N := 8) ?hd (cs := #[.int .i64 0, .int .i64 0]) (t := 50) ?hr ?_; (case hd => rfl); (case hg => rfl); (case hr => first | (go_simp; done) | (go_simp; rfl))
                        intro gb383 hg w30 hbox hb
                        have BK383 := aM (hbox); have GW383 := gZ HB hg; have GE383 := gZ HB hg; have NB366_383 := nG BK366 hg; have NB383_366 := nH BK366 hg; have NB385_383 := nG BK385 hg; have NB383_385 := nH BK385 hg; replace BK366 := bB BK366 hb; replace BK385 := bB BK385 hb; replace HB := tB HB hb; clear hb hbox hg
                        refine hK.out _ _ ⟨vZ0 BK366, vZ1 BK366, (hC HB hw372_0 :), (hC HB hw372_1 :)⟩ (fun hHeld => ?_)
                        clear hK K
                        refine nU ?_
                        exact norm_ (by first | (simp only [putAll, Act.put, sI, sZ, sS]; done) | (simp only [putAll, Act.put, sI, sZ, sS]; rfl)) (hJ5_9_11_15_18_20 (gb383, gb385) _ ⟨hHeld, (gQ BK366), (gQ BK383), (gQ BK385), GW383.out, GE383.out, NB366_383.out, NB383_366.out, NB385_383.out, NB383_385.out, GW385.out, GE385.out, NB366_385.out, NB385_366.out, bE⟩)
                       ·skip
                        refine box_step ?hg (N := 9) ?hd (cs := #[.int .i64 0, .int .i64 0]) (t := 50) ?hr ?_; (case hd => rfl); (case hg => rfl); (case hr => first | (go_simp; done) | (go_simp; rfl))
                        intro gb384 hg w30 hbox hb
                        have BK384 := aM (hbox); have GW384 := gZ HB hg; have GE384 := gZ HB hg; have NB366_384 := nG BK366 hg; have NB384_366 := nH BK366 hg; have NB385_384 := nG BK385 hg; have NB384_385 := nH BK385 hg; replace BK366 := bB BK366 hb; replace BK385 := bB BK385 hb; replace HB := tB HB hb; clear hb hbox hg
                        refine hK.out _ _ ⟨vZ0 BK366, vZ1 BK366, (hC HB hw372_0 :), (hC HB hw372_1 :)⟩ (fun hHeld => ?_)
                        clear hK K
                        refine nU ?_
                        exact norm_ (by first | (simp only [putAll, Act.put, sI, sZ, sS]; done) | (simp only [putAll, Act.put, sI, sZ, sS]; rfl)) (hJ5_9_11_15_19_20 (gb384, gb385) _ ⟨hHeld, (gQ BK366), (gQ BK384), (gQ BK385), GW384.out, GE384.out, NB366_384.out, NB384_366.out, NB385_384.out, NB384_385.out, GW385.out, GE385.out, NB366_385.out, NB385_366.out, bE⟩)
                     ·skip
                      rintro gb384 w29 ⟨hS_, h0_, h1_, h2_, h3_, h4_, h5_, h6_⟩; (try dsimp only at hS_ h0_ h1_ h2_ h3_ h4_ h5_ h6_); clear BK366 HB; have BK366 := aM h0_; have BK384 := aM h1_; have GW384 := aM h2_; have GE384 := aM h3_; have NB366_384 := aM h4_; have NB384_366 := aM h5_; have HB := aM h6_; clear h0_ h1_ h2_ h3_ h4_ h5_ h6_; have hHeld := hS_
                      refine norm_ (a' := ?_) ?_ ?_
                      rotate_left
                      ·simp only [putAll, Act.put, sI, sZ, sS]
                       rfl
                      refine three_ (i := 17) (j := 18) (k := 20) (Ni := some 41) (Nj := some 8) (Nk := some 10) (bA 24 786431) (bA 24 917503) (bA 24 1703935) rfl rfl rfl rfl rfl rfl (three_of HT_.out kR) (by decide) (by decide) (by decide) (fun K hK => ?_) (fun K hK => ?_) (fun K hK => ?_)
                      ·skip
                       refine goes_ Try.func65 kR rfl #[.agg #[.int .i64 t379, .int .i64 t380], .agg #[.int .i64 a1_0, .int .i64 a1_1]] (by rfl) rfl rfl sQ ?_
                       with_reducible refine (impl_Peg_less.calls t379 t380 a1_0 a1_1 t381 t382 _ A20.out).mono ?_
                       rintro e w30 ⟨rfl, hb⟩; refine ⟨_, rfl, ?_⟩; replace BK366 := bB BK366 hb; replace BK384 := bB BK384 hb; replace HB := tB HB hb; (try clear hb); (try clear hb2); (try clear hk); (try clear hi)
                       refine hK.out _ _ ⟨vZ0 BK366, vZ1 BK366, (hC HB hw372_0 :), (hC HB hw372_1 :)⟩ (fun hHeld => ?_)
                       clear hK K
                       refine nU ?_
                       exact norm_ (by first | (simp only [putAll, Act.put, sI, sZ, sS]; done) | (simp only [putAll, Act.put, sI, sZ, sS]; rfl)) (hJ5_9_11_15_17_19 (gb384) _ ⟨hHeld, (gQ BK366), (gQ BK384), GW384.out, GE384.out, NB366_384.out, NB384_366.out, bE⟩)
                      ·skip
                       refine box_step ?hg (N := 8) ?hd (cs := #[.int .i64 0, .int .i64 0]) (t := 50) ?hr ?_; (case hd => rfl); (case hg => rfl); (case hr => first | (go_simp; done) | (go_simp; rfl))
                       intro gb383 hg w30 hbox hb
                       have BK383 := aM (hbox); have GW383 := gZ HB hg; have GE383 := gZ HB hg; have NB366_383 := nG BK366 hg; have NB383_366 := nH BK366 hg; have NB384_383 := nG BK384 hg; have NB383_384 := nH BK384 hg; replace BK366 := bB BK366 hb; replace BK384 := bB BK384 hb; replace HB := tB HB hb; clear hb hbox hg
                       refine hK.out _ _ ⟨vZ0 BK366, vZ1 BK366, (hC HB hw372_0 :), (hC HB hw372_1 :)⟩ (fun hHeld => ?_)
                       clear hK K
                       refine nU ?_
                       exact norm_ (by first | (simp only [putAll, Act.put, sI, sZ, sS]; done) | (simp only [putAll, Act.put, sI, sZ, sS]; rfl)) (hJ5_9_11_15_18_19 (gb383, gb384) _ ⟨hHeld, (gQ BK366), (gQ BK383), (gQ BK384), GW383.out, GE383.out, NB366_383.out, NB383_366.out, NB384_383.out, NB383_384.out, GW384.out, GE384.out, NB366_384.out, NB384_366.out, bE⟩)
                      ·skip
                       refine box_step ?hg (N := 10) ?hd (cs := #[.int .i64 0, .int .i64 0]) (t := 50) ?hr ?_; (case hd => rfl); (case hg => rfl); (case hr => first | (go_simp; done) | (go_simp; rfl))
                       intro gb385 hg w30 hbox hb
                       have BK385 := aM (hbox); have GW385 := gZ HB hg; have GE385 := gZ HB hg; have NB366_385 := nG BK366 hg; have NB385_366 := nH BK366 hg; have NB384_385 := nG BK384 hg; have NB385_384 := nH BK384 hg; replace BK366 := bB BK366 hb; replace BK384 := bB BK384 hb; replace HB := tB HB hb; clear hb hbox hg
                       refine hK.out _ _ ⟨vZ0 BK366, vZ1 BK366, (hC HB hw372_0 :), (hC HB hw372_1 :)⟩ (fun hHeld => ?_)
                       clear hK K
                       refine nU ?_
                       exact norm_ (by first | (simp only [putAll, Act.put, sI, sZ, sS]; done) | (simp only [putAll, Act.put, sI, sZ, sS]; rfl)) (hJ5_9_11_15_19_20 (gb384, gb385) _ ⟨hHeld, (gQ BK366), (gQ BK384), (gQ BK385), GW384.out, GE384.out, NB366_384.out, NB384_366.out, NB385_384.out, NB384_385.out, GW385.out, GE385.out, NB366_385.out, NB385_366.out, bE⟩)
                    ·skip
                     rintro gb383 w29 ⟨hS_, h0_, h1_, h2_, h3_, h4_, h5_, h6_⟩; (try dsimp only at hS_ h0_ h1_ h2_ h3_ h4_ h5_ h6_); clear BK366 HB; have BK366 := aM h0_; have BK383 := aM h1_; have GW383 := aM h2_; have GE383 := aM h3_; have NB366_383 := aM h4_; have NB383_366 := aM h5_; have HB := aM h6_; clear h0_ h1_ h2_ h3_ h4_ h5_ h6_; have hHeld := hS_
                     refine norm_ (a' := ?_) ?_ ?_
                     rotate_left
                     ·simp only [putAll, Act.put, sI, sZ, sS]
                      rfl
                     refine three_ (i := 17) (j := 19) (k := 20) (Ni := some 41) (Nj := some 9) (Nk := some 10) (bA 24 524287) (bA 24 917503) (bA 24 1441791) rfl rfl rfl rfl rfl rfl (three_of HT_.out kR) (by decide) (by decide) (by decide) (fun K hK => ?_) (fun K hK => ?_) (fun K hK => ?_)
                     ·skip
                      refine goes_ Try.func65 kR rfl #[.agg #[.int .i64 t379, .int .i64 t380], .agg #[.int .i64 a1_0, .int .i64 a1_1]] (by rfl) rfl rfl sQ ?_
                      with_reducible refine (impl_Peg_less.calls t379 t380 a1_0 a1_1 t381 t382 _ A20.out).mono ?_
                      rintro e w30 ⟨rfl, hb⟩; refine ⟨_, rfl, ?_⟩; replace BK366 := bB BK366 hb; replace BK383 := bB BK383 hb; replace HB := tB HB hb; (try clear hb); (try clear hb2); (try clear hk); (try clear hi)
                      refine hK.out _ _ ⟨vZ0 BK366, vZ1 BK366, (hC HB hw372_0 :), (hC HB hw372_1 :)⟩ (fun hHeld => ?_)
                      clear hK K
                      refine nU ?_
                      exact norm_ (by first | (simp only [putAll, Act.put, sI, sZ, sS]; done) | (simp only [putAll, Act.put, sI, sZ, sS]; rfl)) (hJ5_9_11_15_17_18 (gb383) _ ⟨hHeld, (gQ BK366), (gQ BK383), GW383.out, GE383.out, NB366_383.out, NB383_366.out, bE⟩)
                     ·skip
                      refine box_step ?hg (N := 9) ?hd (cs := #[.int .i64 0, .int .i64 0]) (t := 50) ?hr ?_; (case hd => rfl); (case hg => rfl); (case hr => first | (go_simp; done) | (go_simp; rfl))
                      intro gb384 hg w30 hbox hb
                      have BK384 := aM (hbox); have GW384 := gZ HB hg; have GE384 := gZ HB hg; have NB366_384 := nG BK366 hg; have NB384_366 := nH BK366 hg; have NB383_384 := nG BK383 hg; have NB384_383 := nH BK383 hg; replace BK366 := bB BK366 hb; replace BK383 := bB BK383 hb; replace HB := tB HB hb; clear hb hbox hg
                      refine hK.out _ _ ⟨vZ0 BK366, vZ1 BK366, (hC HB hw372_0 :), (hC HB hw372_1 :)⟩ (fun hHeld => ?_)
                      clear hK K
                      refine nU ?_
                      exact norm_ (by first | (simp only [putAll, Act.put, sI, sZ, sS]; done) | (simp only [putAll, Act.put, sI, sZ, sS]; rfl)) (hJ5_9_11_15_18_19 (gb383, gb384) _ ⟨hHeld, (gQ BK366), (gQ BK383), (gQ BK384), GW383.out, GE383.out, NB366_383.out, NB383_366.out, NB384_383.out, NB383_384.out, GW384.out, GE384.out, NB366_384.out, NB384_366.out, bE⟩)
                     ·skip
                      refine box_step ?hg (N := 10) ?hd (cs := #[.int .i64 0, .int .i64 0]) (t := 50) ?hr ?_; (case hd => rfl); (case hg => rfl); (case hr => first | (go_simp; done) | (go_simp; rfl))
                      intro gb385 hg w30 hbox hb
                      have BK385 := aM (hbox); have GW385 := gZ HB hg; have GE385 := gZ HB hg; have NB366_385 := nG BK366 hg; have NB385_366 := nH BK366 hg; have NB383_385 := nG BK383 hg; have NB385_383 := nH BK383 hg; replace BK366 := bB BK366 hb; replace BK383 := bB BK383 hb; replace HB := tB HB hb; clear hb hbox hg
                      refine hK.out _ _ ⟨vZ0 BK366, vZ1 BK366, (hC HB hw372_0 :), (hC HB hw372_1 :)⟩ (fun hHeld => ?_)
                      clear hK K
                      refine nU ?_
                      exact norm_ (by first | (simp only [putAll, Act.put, sI, sZ, sS]; done) | (simp only [putAll, Act.put, sI, sZ, sS]; rfl)) (hJ5_9_11_15_18_20 (gb383, gb385) _ ⟨hHeld, (gQ BK366), (gQ BK383), (gQ BK385), GW383.out, GE383.out, NB366_383.out, NB383_366.out, NB385_383.out, NB383_385.out, GW385.out, GE385.out, NB366_385.out, NB385_366.out, bE⟩)
                   ·skip
                    rintro _ w29 ⟨hS_, h0_, h1_⟩; (try dsimp only at hS_ h0_ h1_); clear BK366 HB; have BK366 := aM h0_; have HB := aM h1_; clear h0_ h1_; have hHeld := hS_
                    refine norm_ (a' := ?_) ?_ ?_
                    rotate_left
                    ·simp only [putAll, Act.put, sI, sZ, sS]
                     rfl
                    refine three_ (i := 18) (j := 19) (k := 20) (Ni := some 8) (Nj := some 9) (Nk := some 10) (bA 24 524287) (bA 24 786431) (bA 24 1310719) rfl rfl rfl rfl rfl rfl (three_of HT_.out kR) (by decide) (by decide) (by decide) (fun K hK => ?_) (fun K hK => ?_) (fun K hK => ?_)
                    ·skip
                     refine box_step ?hg (N := 8) ?hd (cs := #[.int .i64 0, .int .i64 0]) (t := 50) ?hr ?_; (case hd => rfl); (case hg => rfl); (case hr => first | (go_simp; done) | (go_simp; rfl))
                     intro gb383 hg w30 hbox hb
                     have BK383 := aM (hbox); have GW383 := gZ HB hg; have GE383 := gZ HB hg; have NB366_383 := nG BK366 hg; have NB383_366 := nH BK366 hg; replace BK366 := bB BK366 hb; replace HB := tB HB hb; clear hb hbox hg
                     refine hK.out _ _ ⟨vZ0 BK366, vZ1 BK366, (hC HB hw372_0 :), (hC HB hw372_1 :)⟩ (fun hHeld => ?_)
                     clear hK K
                     refine nU ?_
                     exact norm_ (by first | (simp only [putAll, Act.put, sI, sZ, sS]; done) | (simp only [putAll, Act.put, sI, sZ, sS]; rfl)) (hJ5_9_11_15_17_18 (gb383) _ ⟨hHeld, (gQ BK366), (gQ BK383), GW383.out, GE383.out, NB366_383.out, NB383_366.out, bE⟩)
                    ·skip
                     refine box_step ?hg (N := 9) ?hd (cs := #[.int .i64 0, .int .i64 0]) (t := 50) ?hr ?_; (case hd => rfl); (case hg => rfl); (case hr => first | (go_simp; done) | (go_simp; rfl))
                     intro gb384 hg w30 hbox hb
                     have BK384 := aM (hbox); have GW384 := gZ HB hg; have GE384 := gZ HB hg; have NB366_384 := nG BK366 hg; have NB384_366 := nH BK366 hg; replace BK366 := bB BK366 hb; replace HB := tB HB hb; clear hb hbox hg
                     refine hK.out _ _ ⟨vZ0 BK366, vZ1 BK366, (hC HB hw372_0 :), (hC HB hw372_1 :)⟩ (fun hHeld => ?_)
                     clear hK K
                     refine nU ?_
                     exact norm_ (by first | (simp only [putAll, Act.put, sI, sZ, sS]; done) | (simp only [putAll, Act.put, sI, sZ, sS]; rfl)) (hJ5_9_11_15_17_19 (gb384) _ ⟨hHeld, (gQ BK366), (gQ BK384), GW384.out, GE384.out, NB366_384.out, NB384_366.out, bE⟩)
                    ·skip
                     refine box_step ?hg (N := 10) ?hd (cs := #[.int .i64 0, .int .i64 0]) (t := 50) ?hr ?_; (case hd => rfl); (case hg => rfl); (case hr => first | (go_simp; done) | (go_simp; rfl))
                     intro gb385 hg w30 hbox hb
                     have BK385 := aM (hbox); have GW385 := gZ HB hg; have GE385 := gZ HB hg; have NB366_385 := nG BK366 hg; have NB385_366 := nH BK366 hg; replace BK366 := bB BK366 hb; replace HB := tB HB hb; clear hb hbox hg
                     refine hK.out _ _ ⟨vZ0 BK366, vZ1 BK366, (hC HB hw372_0 :), (hC HB hw372_1 :)⟩ (fun hHeld => ?_)
                     clear hK K
                     refine nU ?_
                     exact norm_ (by first | (simp only [putAll, Act.put, sI, sZ, sS]; done) | (simp only [putAll, Act.put, sI, sZ, sS]; rfl)) (hJ5_9_11_15_17_20 (gb385) _ ⟨hHeld, (gQ BK366), (gQ BK385), GW385.out, GE385.out, NB366_385.out, NB385_366.out, bE⟩)
                  ·skip
                   rintro ⟨gb383, gb384, gb385⟩ w30 ⟨hS_, h0_, h1_, h2_, h3_, h4_, h5_, h6_, h7_, h8_, h9_, h10_, h11_, h12_, h13_, h14_, h15_, h16_, h17_, h18_, h19_, h20_, h21_, h22_⟩; (try dsimp only at hS_ h0_ h1_ h2_ h3_ h4_ h5_ h6_ h7_ h8_ h9_ h10_ h11_ h12_ h13_ h14_ h15_ h16_ h17_ h18_ h19_ h20_ h21_ h22_); clear BK366 HB; have BK366 := aM h0_; have BK383 := aM h1_; have BK384 := aM h2_; have BK385 := aM h3_; have GW383 := aM h4_; have GE383 := aM h5_; have NB366_383 := aM h6_; have NB383_366 := aM h7_; have NB384_383 := aM h8_; have NB383_384 := aM h9_; have NB385_383 := aM h10_; have NB383_385 := aM h11_; have GW384 := aM h12_; have GE384 := aM h13_; have NB366_384 := aM h14_; have NB384_366 := aM h15_; have NB385_384 := aM h16_; have NB384_385 := aM h17_; have GW385 := aM h18_; have GE385 := aM h19_; have NB366_385 := aM h20_; have NB385_366 := aM h21_; have HB := aM h22_; clear h0_ h1_ h2_ h3_ h4_ h5_ h6_ h7_ h8_ h9_ h10_ h11_ h12_ h13_ h14_ h15_ h16_ h17_ h18_ h19_ h20_ h21_ h22_; have hHeld := hS_
                   refine norm_ (a' := ?_) ?_ ?_
                   rotate_left
                   ·simp only [putAll, Act.put, sI, sZ, sS]
                    rfl
                   refine oU 15 39 (bA 24 1966079) HT_ (fun K hK => ?_)
                   refine goes_ Try.func106 kR rfl #[.slice (some ad372) l0.length c0, .int .i64 (wrap64 (x21_2 + 2))] (by rfl) rfl rfl sQ ?_
                   with_reducible refine (impl_at.calls _ _ l0 (wrap64 (x21_2 + 2)) t379 t380 _ ?side1 ?side2 A19.out).mono ?_
                   (case side1 => repeat (first | exact (Kd.C_below HR0.out HB.out) | (with_reducible refine cA ?_ _) | (with_reducible refine cN ?_ _) | (with_reducible refine cD ?_)))
                   (case side2 => exact HC0.out)
                   rintro e w31 ⟨rfl, hb⟩; refine ⟨_, rfl, ?_⟩; replace BK366 := bB BK366 hb; replace BK383 := bB BK383 hb; replace BK384 := bB BK384 hb; replace BK385 := bB BK385 hb; replace HB := tB HB hb; (try clear hb); (try clear hb2); (try clear hk); (try clear hi)
                   refine hK.out _ _ ⟨vZ0 BK366, vZ1 BK366, (hC HB hw372_0 :), (hC HB hw372_1 :)⟩ (fun hHeld => ?_)
                   clear hK K
                   refine nU ?_
                   exact norm_ (by first | (simp only [putAll, Act.put, sI, sZ, sS]; done) | (simp only [putAll, Act.put, sI, sZ, sS]; rfl)) (hJ5_9_11_15_18_19_20 (gb383, gb384, gb385) _ ⟨hHeld, (gQ BK366), (gQ BK383), (gQ BK384), (gQ BK385), GW383.out, GE383.out, NB366_383.out, NB383_366.out, NB384_383.out, NB383_384.out, NB385_383.out, NB383_385.out, GW384.out, GE384.out, NB366_384.out, NB384_366.out, NB385_384.out, NB384_385.out, GW385.out, GE385.out, NB366_385.out, NB385_366.out, bE⟩)
                 ·skip
                  rintro ⟨gb384, gb385⟩ w30 ⟨hS_, h0_, h1_, h2_, h3_, h4_, h5_, h6_, h7_, h8_, h9_, h10_, h11_, h12_, h13_⟩; (try dsimp only at hS_ h0_ h1_ h2_ h3_ h4_ h5_ h6_ h7_ h8_ h9_ h10_ h11_ h12_ h13_); clear BK366 HB; have BK366 := aM h0_; have BK384 := aM h1_; have BK385 := aM h2_; have GW384 := aM h3_; have GE384 := aM h4_; have NB366_384 := aM h5_; have NB384_366 := aM h6_; have NB385_384 := aM h7_; have NB384_385 := aM h8_; have GW385 := aM h9_; have GE385 := aM h10_; have NB366_385 := aM h11_; have NB385_366 := aM h12_; have HB := aM h13_; clear h0_ h1_ h2_ h3_ h4_ h5_ h6_ h7_ h8_ h9_ h10_ h11_ h12_ h13_; have hHeld := hS_
                  refine norm_ (a' := ?_) ?_ ?_
                  rotate_left
                  ·simp only [putAll, Act.put, sI, sZ, sS]
                   rfl
                  refine two_ (i := 17) (j := 18) (Ni := some 41) (Nj := some 8) (bA 24 1835007) (bA 24 1966079) rfl rfl rfl rfl (two_of HT_.out kR) (by decide) (by decide) (fun K hK => ?_) (fun K hK => ?_)
                  ·skip
                   refine goes_ Try.func65 kR rfl #[.agg #[.int .i64 t379, .int .i64 t380], .agg #[.int .i64 a1_0, .int .i64 a1_1]] (by rfl) rfl rfl sQ ?_
                   with_reducible refine (impl_Peg_less.calls t379 t380 a1_0 a1_1 t381 t382 _ A20.out).mono ?_
                   rintro e w31 ⟨rfl, hb⟩; refine ⟨_, rfl, ?_⟩; replace BK366 := bB BK366 hb; replace BK384 := bB BK384 hb; replace BK385 := bB BK385 hb; replace HB := tB HB hb; (try clear hb); (try clear hb2); (try clear hk); (try clear hi)
                   refine hK.out _ _ ⟨vZ0 BK366, vZ1 BK366, (hC HB hw372_0 :), (hC HB hw372_1 :)⟩ (fun hHeld => ?_)
                   clear hK K
                   refine nU ?_
                   exact norm_ (by first | (simp only [putAll, Act.put, sI, sZ, sS]; done) | (simp only [putAll, Act.put, sI, sZ, sS]; rfl)) (hJ5_9_11_15_17_19_20 (gb384, gb385) _ ⟨hHeld, (gQ BK366), (gQ BK384), (gQ BK385), GW384.out, GE384.out, NB366_384.out, NB384_366.out, NB385_384.out, NB384_385.out, GW385.out, GE385.out, NB366_385.out, NB385_366.out, bE⟩)
                  ·skip
                   refine box_step ?hg (N := 8) ?hd (cs := #[.int .i64 0, .int .i64 0]) (t := 50) ?hr ?_; (case hd => rfl); (case hg => rfl); (case hr => first | (go_simp; done) | (go_simp; rfl))
                   intro gb383 hg w31 hbox hb
                   have BK383 := aM (hbox); have GW383 := gZ HB hg; have GE383 := gZ HB hg; have NB366_383 := nG BK366 hg; have NB383_366 := nH BK366 hg; have NB384_383 := nG BK384 hg; have NB383_384 := nH BK384 hg; have NB385_383 := nG BK385 hg; have NB383_385 := nH BK385 hg; replace BK366 := bB BK366 hb; replace BK384 := bB BK384 hb; replace BK385 := bB BK385 hb; replace HB := tB HB hb; clear hb hbox hg
                   refine hK.out _ _ ⟨vZ0 BK366, vZ1 BK366, (hC HB hw372_0 :), (hC HB hw372_1 :)⟩ (fun hHeld => ?_)
                   clear hK K
                   refine nU ?_
                   exact norm_ (by first | (simp only [putAll, Act.put, sI, sZ, sS]; done) | (simp only [putAll, Act.put, sI, sZ, sS]; rfl)) (hJ5_9_11_15_18_19_20 (gb383, gb384, gb385) _ ⟨hHeld, (gQ BK366), (gQ BK383), (gQ BK384), (gQ BK385), GW383.out, GE383.out, NB366_383.out, NB383_366.out, NB384_383.out, NB383_384.out, NB385_383.out, NB383_385.out, GW384.out, GE384.out, NB366_384.out, NB384_366.out, NB385_384.out, NB384_385.out, GW385.out, GE385.out, NB366_385.out, NB385_366.out, bE⟩)
                ·skip
                 rintro ⟨gb383, gb385⟩ w30 ⟨hS_, h0_, h1_, h2_, h3_, h4_, h5_, h6_, h7_, h8_, h9_, h10_, h11_, h12_, h13_⟩; (try dsimp only at hS_ h0_ h1_ h2_ h3_ h4_ h5_ h6_ h7_ h8_ h9_ h10_ h11_ h12_ h13_); clear BK366 HB; have BK366 := aM h0_; have BK383 := aM h1_; have BK385 := aM h2_; have GW383 := aM h3_; have GE383 := aM h4_; have NB366_383 := aM h5_; have NB383_366 := aM h6_; have NB385_383 := aM h7_; have NB383_385 := aM h8_; have GW385 := aM h9_; have GE385 := aM h10_; have NB366_385 := aM h11_; have NB385_366 := aM h12_; have HB := aM h13_; clear h0_ h1_ h2_ h3_ h4_ h5_ h6_ h7_ h8_ h9_ h10_ h11_ h12_ h13_; have hHeld := hS_
                 refine norm_ (a' := ?_) ?_ ?_
                 rotate_left
                 ·simp only [putAll, Act.put, sI, sZ, sS]
                  rfl
                 refine two_ (i := 17) (j := 19) (Ni := some 41) (Nj := some 9) (bA 24 1572863) (bA 24 1966079) rfl rfl rfl rfl (two_of HT_.out kR) (by decide) (by decide) (fun K hK => ?_) (fun K hK => ?_)
                 ·skip
                  refine goes_ Try.func65 kR rfl #[.agg #[.int .i64 t379, .int .i64 t380], .agg #[.int .i64 a1_0, .int .i64 a1_1]] (by rfl) rfl rfl sQ ?_
                  with_reducible refine (impl_Peg_less.calls t379 t380 a1_0 a1_1 t381 t382 _ A20.out).mono ?_
                  rintro e w31 ⟨rfl, hb⟩; refine ⟨_, rfl, ?_⟩; replace BK366 := bB BK366 hb; replace BK383 := bB BK383 hb; replace BK385 := bB BK385 hb; replace HB := tB HB hb; (try clear hb); (try clear hb2); (try clear hk); (try clear hi)
                  refine hK.out _ _ ⟨vZ0 BK366, vZ1 BK366, (hC HB hw372_0 :), (hC HB hw372_1 :)⟩ (fun hHeld => ?_)
                  clear hK K
                  refine nU ?_
                  exact norm_ (by first | (simp only [putAll, Act.put, sI, sZ, sS]; done) | (simp only [putAll, Act.put, sI, sZ, sS]; rfl)) (hJ5_9_11_15_17_18_20 (gb383, gb385) _ ⟨hHeld, (gQ BK366), (gQ BK383), (gQ BK385), GW383.out, GE383.out, NB366_383.out, NB383_366.out, NB385_383.out, NB383_385.out, GW385.out, GE385.out, NB366_385.out, NB385_366.out, bE⟩)
                 ·skip
                  refine box_step ?hg (N := 9) ?hd (cs := #[.int .i64 0, .int .i64 0]) (t := 50) ?hr ?_; (case hd => rfl); (case hg => rfl); (case hr => first | (go_simp; done) | (go_simp; rfl))
                  intro gb384 hg w31 hbox hb
                  have BK384 := aM (hbox); have GW384 := gZ HB hg; have GE384 := gZ HB hg; have NB366_384 := nG BK366 hg; have NB384_366 := nH BK366 hg; have NB383_384 := nG BK383 hg; have NB384_383 := nH BK383 hg; have NB385_384 := nG BK385 hg; have NB384_385 := nH BK385 hg; replace BK366 := bB BK366 hb; replace BK383 := bB BK383 hb; replace BK385 := bB BK385 hb; replace HB := tB HB hb; clear hb hbox hg
                  refine hK.out _ _ ⟨vZ0 BK366, vZ1 BK366, (hC HB hw372_0 :), (hC HB hw372_1 :)⟩ (fun hHeld => ?_)
                  clear hK K
                  refine nU ?_
                  exact norm_ (by first | (simp only [putAll, Act.put, sI, sZ, sS]; done) | (simp only [putAll, Act.put, sI, sZ, sS]; rfl)) (hJ5_9_11_15_18_19_20 (gb383, gb384, gb385) _ ⟨hHeld, (gQ BK366), (gQ BK383), (gQ BK384), (gQ BK385), GW383.out, GE383.out, NB366_383.out, NB383_366.out, NB384_383.out, NB383_384.out, NB385_383.out, NB383_385.out, GW384.out, GE384.out, NB366_384.out, NB384_366.out, NB385_384.out, NB384_385.out, GW385.out, GE385.out, NB366_385.out, NB385_366.out, bE⟩)
               ·skip
                rintro ⟨gb383, gb384⟩ w30 ⟨hS_, h0_, h1_, h2_, h3_, h4_, h5_, h6_, h7_, h8_, h9_, h10_, h11_, h12_, h13_⟩; (try dsimp only at hS_ h0_ h1_ h2_ h3_ h4_ h5_ h6_ h7_ h8_ h9_ h10_ h11_ h12_ h13_); clear BK366 HB; have BK366 := aM h0_; have BK383 := aM h1_; have BK384 := aM h2_; have GW383 := aM h3_; have GE383 := aM h4_; have NB366_383 := aM h5_; have NB383_366 := aM h6_; have NB384_383 := aM h7_; have NB383_384 := aM h8_; have GW384 := aM h9_; have GE384 := aM h10_; have NB366_384 := aM h11_; have NB384_366 := aM h12_; have HB := aM h13_; clear h0_ h1_ h2_ h3_ h4_ h5_ h6_ h7_ h8_ h9_ h10_ h11_ h12_ h13_; have hHeld := hS_
                refine norm_ (a' := ?_) ?_ ?_
                rotate_left
                ·simp only [putAll, Act.put, sI, sZ, sS]
                 rfl
                refine two_ (i := 17) (j := 20) (Ni := some 41) (Nj := some 10) (bA 24 1048575) (bA 24 1966079) rfl rfl rfl rfl (two_of HT_.out kR) (by decide) (by decide) (fun K hK => ?_) (fun K hK => ?_)
                ·skip
                 refine goes_ Try.func65 kR rfl #[.agg #[.int .i64 t379, .int .i64 t380], .agg #[.int .i64 a1_0, .int .i64 a1_1]] (by rfl) rfl rfl sQ ?_
                 with_reducible refine (impl_Peg_less.calls t379 t380 a1_0 a1_1 t381 t382 _ A20.out).mono ?_
                 rintro e w31 ⟨rfl, hb⟩; refine ⟨_, rfl, ?_⟩; replace BK366 := bB BK366 hb; replace BK383 := bB BK383 hb; replace BK384 := bB BK384 hb; replace HB := tB HB hb; (try clear hb); (try clear hb2); (try clear hk); (try clear hi)
                 refine hK.out _ _ ⟨vZ0 BK366, vZ1 BK366, (hC HB hw372_0 :), (hC HB hw372_1 :)⟩ (fun hHeld => ?_)
                 clear hK K
                 refine nU ?_
                 exact norm_ (by first | (simp only [putAll, Act.put, sI, sZ, sS]; done) | (simp only [putAll, Act.put, sI, sZ, sS]; rfl)) (hJ5_9_11_15_17_18_19 (gb383, gb384) _ ⟨hHeld, (gQ BK366), (gQ BK383), (gQ BK384), GW383.out, GE383.out, NB366_383.out, NB383_366.out, NB384_383.out, NB383_384.out, GW384.out, GE384.out, NB366_384.out, NB384_366.out, bE⟩)
                ·skip
                 refine box_step ?hg (N := 10) ?hd (cs := #[.int .i64 0, .int .i64 0]) (t := 50) ?hr ?_; (case hd => rfl); (case hg => rfl); (case hr => first | (go_simp; done) | (go_simp; rfl))
                 intro gb385 hg w31 hbox hb
                 have BK385 := aM (hbox); have GW385 := gZ HB hg; have GE385 := gZ HB hg; have NB366_385 := nG BK366 hg; have NB385_366 := nH BK366 hg; have NB383_385 := nG BK383 hg; have NB385_383 := nH BK383 hg; have NB384_385 := nG BK384 hg; have NB385_384 := nH BK384 hg; replace BK366 := bB BK366 hb; replace BK383 := bB BK383 hb; replace BK384 := bB BK384 hb; replace HB := tB HB hb; clear hb hbox hg
                 refine hK.out _ _ ⟨vZ0 BK366, vZ1 BK366, (hC HB hw372_0 :), (hC HB hw372_1 :)⟩ (fun hHeld => ?_)
                 clear hK K
                 refine nU ?_
                 exact norm_ (by first | (simp only [putAll, Act.put, sI, sZ, sS]; done) | (simp only [putAll, Act.put, sI, sZ, sS]; rfl)) (hJ5_9_11_15_18_19_20 (gb383, gb384, gb385) _ ⟨hHeld, (gQ BK366), (gQ BK383), (gQ BK384), (gQ BK385), GW383.out, GE383.out, NB366_383.out, NB383_366.out, NB384_383.out, NB383_384.out, NB385_383.out, NB383_385.out, GW384.out, GE384.out, NB366_384.out, NB384_366.out, NB385_384.out, NB384_385.out, GW385.out, GE385.out, NB366_385.out, NB385_366.out, bE⟩)
              ·skip
               rintro gb385 w30 ⟨hS_, h0_, h1_, h2_, h3_, h4_, h5_, h6_⟩; (try dsimp only at hS_ h0_ h1_ h2_ h3_ h4_ h5_ h6_); clear BK366 HB; have BK366 := aM h0_; have BK385 := aM h1_; have GW385 := aM h2_; have GE385 := aM h3_; have NB366_385 := aM h4_; have NB385_366 := aM h5_; have HB := aM h6_; clear h0_ h1_ h2_ h3_ h4_ h5_ h6_; have hHeld := hS_
               refine norm_ (a' := ?_) ?_ ?_
               rotate_left
               ·simp only [putAll, Act.put, sI, sZ, sS]
                rfl
               refine two_ (i := 18) (j := 19) (Ni := some 8) (Nj := some 9) (bA 24 1572863) (bA 24 1835007) rfl rfl rfl rfl (two_of HT_.out kR) (by decide) (by decide) (fun K hK => ?_) (fun K hK => ?_)
               ·skip
                refine box_step ?hg (N := 8) ?hd (cs := #[.int .i64 0, .int .i64 0]) (t := 50) ?hr ?_; (case hd => rfl); (case hg => rfl); (case hr => first | (go_simp; done) | (go_simp; rfl))
                intro gb383 hg w31 hbox hb
                have BK383 := aM (hbox); have GW383 := gZ HB hg; have GE383 := gZ HB hg; have NB366_383 := nG BK366 hg; have NB383_366 := nH BK366 hg; have NB385_383 := nG BK385 hg; have NB383_385 := nH BK385 hg; replace BK366 := bB BK366 hb; replace BK385 := bB BK385 hb; replace HB := tB HB hb; clear hb hbox hg
                refine hK.out _ _ ⟨vZ0 BK366, vZ1 BK366, (hC HB hw372_0 :), (hC HB hw372_1 :)⟩ (fun hHeld => ?_)
                clear hK K
                refine nU ?_
                exact norm_ (by first | (simp only [putAll, Act.put, sI, sZ, sS]; done) | (simp only [putAll, Act.put, sI, sZ, sS]; rfl)) (hJ5_9_11_15_17_18_20 (gb383, gb385) _ ⟨hHeld, (gQ BK366), (gQ BK383), (gQ BK385), GW383.out, GE383.out, NB366_383.out, NB383_366.out, NB385_383.out, NB383_385.out, GW385.out, GE385.out, NB366_385.out, NB385_366.out, bE⟩)
               ·skip
                refine box_step ?hg (N := 9) ?hd (cs := #[.int .i64 0, .int .i64 0]) (t := 50) ?hr ?_; (case hd => rfl); (case hg => rfl); (case hr => first | (go_simp; done) | (go_simp; rfl))
                intro gb384 hg w31 hbox hb
                have BK384 := aM (hbox); have GW384 := gZ HB hg; have GE384 := gZ HB hg; have NB366_384 := nG BK366 hg; have NB384_366 := nH BK366 hg; have NB385_384 := nG BK385 hg; have NB384_385 := nH BK385 hg; replace BK366 := bB BK366 hb; replace BK385 := bB BK385 hb; replace HB := tB HB hb; clear hb hbox hg
                refine hK.out _ _ ⟨vZ0 BK366, vZ1 BK366, (hC HB hw372_0 :), (hC HB hw372_1 :)⟩ (fun hHeld => ?_)
                clear hK K
                refine nU ?_
                exact norm_ (by first | (simp only [putAll, Act.put, sI, sZ, sS]; done) | (simp only [putAll, Act.put, sI, sZ, sS]; rfl)) (hJ5_9_11_15_17_19_20 (gb384, gb385) _ ⟨hHeld, (gQ BK366), (gQ BK384), (gQ BK385), GW384.out, GE384.out, NB366_384.out, NB384_366.out, NB385_384.out, NB384_385.out, GW385.out, GE385.out, NB366_385.out, NB385_366.out, bE⟩)
             ·skip
              rintro gb384 w30 ⟨hS_, h0_, h1_, h2_, h3_, h4_, h5_, h6_⟩; (try dsimp only at hS_ h0_ h1_ h2_ h3_ h4_ h5_ h6_); clear BK366 HB; have BK366 := aM h0_; have BK384 := aM h1_; have GW384 := aM h2_; have GE384 := aM h3_; have NB366_384 := aM h4_; have NB384_366 := aM h5_; have HB := aM h6_; clear h0_ h1_ h2_ h3_ h4_ h5_ h6_; have hHeld := hS_
              refine norm_ (a' := ?_) ?_ ?_
              rotate_left
              ·simp only [putAll, Act.put, sI, sZ, sS]
               rfl
              refine two_ (i := 18) (j := 20) (Ni := some 8) (Nj := some 10) (bA 24 1048575) (bA 24 1835007) rfl rfl rfl rfl (two_of HT_.out kR) (by decide) (by decide) (fun K hK => ?_) (fun K hK => ?_)
              ·skip
               refine box_step ?hg (N := 8) ?hd (cs := #[.int .i64 0, .int .i64 0]) (t := 50) ?hr ?_; (case hd => rfl); (case hg => rfl); (case hr => first | (go_simp; done) | (go_simp; rfl))
               intro gb383 hg w31 hbox hb
               have BK383 := aM (hbox); have GW383 := gZ HB hg; have GE383 := gZ HB hg; have NB366_383 := nG BK366 hg; have NB383_366 := nH BK366 hg; have NB384_383 := nG BK384 hg; have NB383_384 := nH BK384 hg; replace BK366 := bB BK366 hb; replace BK384 := bB BK384 hb; replace HB := tB HB hb; clear hb hbox hg
               refine hK.out _ _ ⟨vZ0 BK366, vZ1 BK366, (hC HB hw372_0 :), (hC HB hw372_1 :)⟩ (fun hHeld => ?_)
               clear hK K
               refine nU ?_
               exact norm_ (by first | (simp only [putAll, Act.put, sI, sZ, sS]; done) | (simp only [putAll, Act.put, sI, sZ, sS]; rfl)) (hJ5_9_11_15_17_18_19 (gb383, gb384) _ ⟨hHeld, (gQ BK366), (gQ BK383), (gQ BK384), GW383.out, GE383.out, NB366_383.out, NB383_366.out, NB384_383.out, NB383_384.out, GW384.out, GE384.out, NB366_384.out, NB384_366.out, bE⟩)
              ·skip
               refine box_step ?hg (N := 10) ?hd (cs := #[.int .i64 0, .int .i64 0]) (t := 50) ?hr ?_; (case hd => rfl); (case hg => rfl); (case hr => first | (go_simp; done) | (go_simp; rfl))
               intro gb385 hg w31 hbox hb
               have BK385 := aM (hbox); have GW385 := gZ HB hg; have GE385 := gZ HB hg; have NB366_385 := nG BK366 hg; have NB385_366 := nH BK366 hg; have NB384_385 := nG BK384 hg; have NB385_384 := nH BK384 hg; replace BK366 := bB BK366 hb; replace BK384 := bB BK384 hb; replace HB := tB HB hb; clear hb hbox hg
               refine hK.out _ _ ⟨vZ0 BK366, vZ1 BK366, (hC HB hw372_0 :), (hC HB hw372_1 :)⟩ (fun hHeld => ?_)
               clear hK K
               refine nU ?_
               exact norm_ (by first | (simp only [putAll, Act.put, sI, sZ, sS]; done) | (simp only [putAll, Act.put, sI, sZ, sS]; rfl)) (hJ5_9_11_15_17_19_20 (gb384, gb385) _ ⟨hHeld, (gQ BK366), (gQ BK384), (gQ BK385), GW384.out, GE384.out, NB366_384.out, NB384_366.out, NB385_384.out, NB384_385.out, GW385.out, GE385.out, NB366_385.out, NB385_366.out, bE⟩)
            ·skip
             rintro gb383 w30 ⟨hS_, h0_, h1_, h2_, h3_, h4_, h5_, h6_⟩; (try dsimp only at hS_ h0_ h1_ h2_ h3_ h4_ h5_ h6_); clear BK366 HB; have BK366 := aM h0_; have BK383 := aM h1_; have GW383 := aM h2_; have GE383 := aM h3_; have NB366_383 := aM h4_; have NB383_366 := aM h5_; have HB := aM h6_; clear h0_ h1_ h2_ h3_ h4_ h5_ h6_; have hHeld := hS_
             refine norm_ (a' := ?_) ?_ ?_
             rotate_left
             ·simp only [putAll, Act.put, sI, sZ, sS]
              rfl
             refine two_ (i := 19) (j := 20) (Ni := some 9) (Nj := some 10) (bA 24 1048575) (bA 24 1572863) rfl rfl rfl rfl (two_of HT_.out kR) (by decide) (by decide) (fun K hK => ?_) (fun K hK => ?_)
             ·skip
              refine box_step ?hg (N := 9) ?hd (cs := #[.int .i64 0, .int .i64 0]) (t := 50) ?hr ?_; (case hd => rfl); (case hg => rfl); (case hr => first | (go_simp; done) | (go_simp; rfl))
              intro gb384 hg w31 hbox hb
              have BK384 := aM (hbox); have GW384 := gZ HB hg; have GE384 := gZ HB hg; have NB366_384 := nG BK366 hg; have NB384_366 := nH BK366 hg; have NB383_384 := nG BK383 hg; have NB384_383 := nH BK383 hg; replace BK366 := bB BK366 hb; replace BK383 := bB BK383 hb; replace HB := tB HB hb; clear hb hbox hg
              refine hK.out _ _ ⟨vZ0 BK366, vZ1 BK366, (hC HB hw372_0 :), (hC HB hw372_1 :)⟩ (fun hHeld => ?_)
              clear hK K
              refine nU ?_
              exact norm_ (by first | (simp only [putAll, Act.put, sI, sZ, sS]; done) | (simp only [putAll, Act.put, sI, sZ, sS]; rfl)) (hJ5_9_11_15_17_18_19 (gb383, gb384) _ ⟨hHeld, (gQ BK366), (gQ BK383), (gQ BK384), GW383.out, GE383.out, NB366_383.out, NB383_366.out, NB384_383.out, NB383_384.out, GW384.out, GE384.out, NB366_384.out, NB384_366.out, bE⟩)
             ·skip
              refine box_step ?hg (N := 10) ?hd (cs := #[.int .i64 0, .int .i64 0]) (t := 50) ?hr ?_; (case hd => rfl); (case hg => rfl); (case hr => first | (go_simp; done) | (go_simp; rfl))
              intro gb385 hg w31 hbox hb
              have BK385 := aM (hbox); have GW385 := gZ HB hg; have GE385 := gZ HB hg; have NB366_385 := nG BK366 hg; have NB385_366 := nH BK366 hg; have NB383_385 := nG BK383 hg; have NB385_383 := nH BK383 hg; replace BK366 := bB BK366 hb; replace BK383 := bB BK383 hb; replace HB := tB HB hb; clear hb hbox hg
              refine hK.out _ _ ⟨vZ0 BK366, vZ1 BK366, (hC HB hw372_0 :), (hC HB hw372_1 :)⟩ (fun hHeld => ?_)
              clear hK K
              refine nU ?_
              exact norm_ (by first | (simp only [putAll, Act.put, sI, sZ, sS]; done) | (simp only [putAll, Act.put, sI, sZ, sS]; rfl)) (hJ5_9_11_15_17_18_20 (gb383, gb385) _ ⟨hHeld, (gQ BK366), (gQ BK383), (gQ BK385), GW383.out, GE383.out, NB366_383.out, NB383_366.out, NB385_383.out, NB383_385.out, GW385.out, GE385.out, NB366_385.out, NB385_366.out, bE⟩)
           ·skip
            rintro ⟨gb383, gb384, gb385⟩ w31 ⟨hS_, h0_, h1_, h2_, h3_, h4_, h5_, h6_, h7_, h8_, h9_, h10_, h11_, h12_, h13_, h14_, h15_, h16_, h17_, h18_, h19_, h20_, h21_, h22_⟩; (try dsimp only at hS_ h0_ h1_ h2_ h3_ h4_ h5_ h6_ h7_ h8_ h9_ h10_ h11_ h12_ h13_ h14_ h15_ h16_ h17_ h18_ h19_ h20_ h21_ h22_); clear BK366 HB; have BK366 := aM h0_; have BK383 := aM h1_; have BK384 := aM h2_; have BK385 := aM h3_; have GW383 := aM h4_; have GE383 := aM h5_; have NB366_383 := aM h6_; have NB383_366 := aM h7_; have NB384_383 := aM h8_; have NB383_384 := aM h9_; have NB385_383 := aM h10_; have NB383_385 := aM h11_; have GW384 := aM h12_; have GE384 := aM h13_; have NB366_384 := aM h14_; have NB384_366 := aM h15_; have NB385_384 := aM h16_; have NB384_385 := aM h17_; have GW385 := aM h18_; have GE385 := aM h19_; have NB366_385 := aM h20_; have NB385_366 := aM h21_; have HB := aM h22_; clear h0_ h1_ h2_ h3_ h4_ h5_ h6_ h7_ h8_ h9_ h10_ h11_ h12_ h13_ h14_ h15_ h16_ h17_ h18_ h19_ h20_ h21_ h22_; have hHeld := hS_
            refine norm_ (a' := ?_) ?_ ?_
            rotate_left
            ·simp only [putAll, Act.put, sI, sZ, sS]
             rfl
            refine oU 17 41 (bA 24 2097151) HT_ (fun K hK => ?_)
            refine goes_ Try.func65 kR rfl #[.agg #[.int .i64 t379, .int .i64 t380], .agg #[.int .i64 a1_0, .int .i64 a1_1]] (by rfl) rfl rfl sQ ?_
            with_reducible refine (impl_Peg_less.calls t379 t380 a1_0 a1_1 t381 t382 _ A20.out).mono ?_
            rintro e w32 ⟨rfl, hb⟩; refine ⟨_, rfl, ?_⟩; replace BK366 := bB BK366 hb; replace BK383 := bB BK383 hb; replace BK384 := bB BK384 hb; replace BK385 := bB BK385 hb; replace HB := tB HB hb; (try clear hb); (try clear hb2); (try clear hk); (try clear hi)
            refine hK.out _ _ ⟨vZ0 BK366, vZ1 BK366, (hC HB hw372_0 :), (hC HB hw372_1 :)⟩ (fun hHeld => ?_)
            clear hK K
            refine nU ?_
            exact norm_ (by first | (simp only [putAll, Act.put, sI, sZ, sS]; done) | (simp only [putAll, Act.put, sI, sZ, sS]; rfl)) (hJ5_9_11_15_17_18_19_20 (gb383, gb384, gb385) _ ⟨hHeld, (gQ BK366), (gQ BK383), (gQ BK384), (gQ BK385), GW383.out, GE383.out, NB366_383.out, NB383_366.out, NB384_383.out, NB383_384.out, NB385_383.out, NB383_385.out, GW384.out, GE384.out, NB366_384.out, NB384_366.out, NB385_384.out, NB384_385.out, GW385.out, GE385.out, NB366_385.out, NB385_366.out, bE⟩)
          ·skip
           rintro ⟨gb384, gb385⟩ w31 ⟨hS_, h0_, h1_, h2_, h3_, h4_, h5_, h6_, h7_, h8_, h9_, h10_, h11_, h12_, h13_⟩; (try dsimp only at hS_ h0_ h1_ h2_ h3_ h4_ h5_ h6_ h7_ h8_ h9_ h10_ h11_ h12_ h13_); clear BK366 HB; have BK366 := aM h0_; have BK384 := aM h1_; have BK385 := aM h2_; have GW384 := aM h3_; have GE384 := aM h4_; have NB366_384 := aM h5_; have NB384_366 := aM h6_; have NB385_384 := aM h7_; have NB384_385 := aM h8_; have GW385 := aM h9_; have GE385 := aM h10_; have NB366_385 := aM h11_; have NB385_366 := aM h12_; have HB := aM h13_; clear h0_ h1_ h2_ h3_ h4_ h5_ h6_ h7_ h8_ h9_ h10_ h11_ h12_ h13_; have hHeld := hS_
           refine norm_ (a' := ?_) ?_ ?_
           rotate_left
           ·simp only [putAll, Act.put, sI, sZ, sS]
            rfl
           refine oU 18 8 (bA 24 2097151) HT_ (fun K hK => ?_)
           refine box_step ?hg (N := 8) ?hd (cs := #[.int .i64 0, .int .i64 0]) (t := 50) ?hr ?_; (case hd => rfl); (case hg => rfl); (case hr => first | (go_simp; done) | (go_simp; rfl))
           intro gb383 hg w32 hbox hb
           have BK383 := aM (hbox); have GW383 := gZ HB hg; have GE383 := gZ HB hg; have NB366_383 := nG BK366 hg; have NB383_366 := nH BK366 hg; have NB384_383 := nG BK384 hg; have NB383_384 := nH BK384 hg; have NB385_383 := nG BK385 hg; have NB383_385 := nH BK385 hg; replace BK366 := bB BK366 hb; replace BK384 := bB BK384 hb; replace BK385 := bB BK385 hb; replace HB := tB HB hb; clear hb hbox hg
           refine hK.out _ _ ⟨vZ0 BK366, vZ1 BK366, (hC HB hw372_0 :), (hC HB hw372_1 :)⟩ (fun hHeld => ?_)
           clear hK K
           refine nU ?_
           exact norm_ (by first | (simp only [putAll, Act.put, sI, sZ, sS]; done) | (simp only [putAll, Act.put, sI, sZ, sS]; rfl)) (hJ5_9_11_15_17_18_19_20 (gb383, gb384, gb385) _ ⟨hHeld, (gQ BK366), (gQ BK383), (gQ BK384), (gQ BK385), GW383.out, GE383.out, NB366_383.out, NB383_366.out, NB384_383.out, NB383_384.out, NB385_383.out, NB383_385.out, GW384.out, GE384.out, NB366_384.out, NB384_366.out, NB385_384.out, NB384_385.out, GW385.out, GE385.out, NB366_385.out, NB385_366.out, bE⟩)
         ·skip
          rintro ⟨gb383, gb385⟩ w31 ⟨hS_, h0_, h1_, h2_, h3_, h4_, h5_, h6_, h7_, h8_, h9_, h10_, h11_, h12_, h13_⟩; (try dsimp only at hS_ h0_ h1_ h2_ h3_ h4_ h5_ h6_ h7_ h8_ h9_ h10_ h11_ h12_ h13_); clear BK366 HB; have BK366 := aM h0_; have BK383 := aM h1_; have BK385 := aM h2_; have GW383 := aM h3_; have GE383 := aM h4_; have NB366_383 := aM h5_; have NB383_366 := aM h6_; have NB385_383 := aM h7_; have NB383_385 := aM h8_; have GW385 := aM h9_; have GE385 := aM h10_; have NB366_385 := aM h11_; have NB385_366 := aM h12_; have HB := aM h13_; clear h0_ h1_ h2_ h3_ h4_ h5_ h6_ h7_ h8_ h9_ h10_ h11_ h12_ h13_; have hHeld := hS_
          refine norm_ (a' := ?_) ?_ ?_
          rotate_left
          ·simp only [putAll, Act.put, sI, sZ, sS]
           rfl
          refine oU 19 9 (bA 24 2097151) HT_ (fun K hK => ?_)
          refine box_step ?hg (N := 9) ?hd (cs := #[.int .i64 0, .int .i64 0]) (t := 50) ?hr ?_; (case hd => rfl); (case hg => rfl); (case hr => first | (go_simp; done) | (go_simp; rfl))
          intro gb384 hg w32 hbox hb
          have BK384 := aM (hbox); have GW384 := gZ HB hg; have GE384 := gZ HB hg; have NB366_384 := nG BK366 hg; have NB384_366 := nH BK366 hg; have NB383_384 := nG BK383 hg; have NB384_383 := nH BK383 hg; have NB385_384 := nG BK385 hg; have NB384_385 := nH BK385 hg; replace BK366 := bB BK366 hb; replace BK383 := bB BK383 hb; replace BK385 := bB BK385 hb; replace HB := tB HB hb; clear hb hbox hg
          refine hK.out _ _ ⟨vZ0 BK366, vZ1 BK366, (hC HB hw372_0 :), (hC HB hw372_1 :)⟩ (fun hHeld => ?_)
          clear hK K
          refine nU ?_
          exact norm_ (by first | (simp only [putAll, Act.put, sI, sZ, sS]; done) | (simp only [putAll, Act.put, sI, sZ, sS]; rfl)) (hJ5_9_11_15_17_18_19_20 (gb383, gb384, gb385) _ ⟨hHeld, (gQ BK366), (gQ BK383), (gQ BK384), (gQ BK385), GW383.out, GE383.out, NB366_383.out, NB383_366.out, NB384_383.out, NB383_384.out, NB385_383.out, NB383_385.out, GW384.out, GE384.out, NB366_384.out, NB384_366.out, NB385_384.out, NB384_385.out, GW385.out, GE385.out, NB366_385.out, NB385_366.out, bE⟩)
        ·skip
         rintro ⟨gb383, gb384⟩ w31 ⟨hS_, h0_, h1_, h2_, h3_, h4_, h5_, h6_, h7_, h8_, h9_, h10_, h11_, h12_, h13_⟩; (try dsimp only at hS_ h0_ h1_ h2_ h3_ h4_ h5_ h6_ h7_ h8_ h9_ h10_ h11_ h12_ h13_); clear BK366 HB; have BK366 := aM h0_; have BK383 := aM h1_; have BK384 := aM h2_; have GW383 := aM h3_; have GE383 := aM h4_; have NB366_383 := aM h5_; have NB383_366 := aM h6_; have NB384_383 := aM h7_; have NB383_384 := aM h8_; have GW384 := aM h9_; have GE384 := aM h10_; have NB366_384 := aM h11_; have NB384_366 := aM h12_; have HB := aM h13_; clear h0_ h1_ h2_ h3_ h4_ h5_ h6_ h7_ h8_ h9_ h10_ h11_ h12_ h13_; have hHeld := hS_
         refine norm_ (a' := ?_) ?_ ?_
         rotate_left
         ·simp only [putAll, Act.put, sI, sZ, sS]
          rfl
         refine oU 20 10 (bA 24 2097151) HT_ (fun K hK => ?_)
         refine box_step ?hg (N := 10) ?hd (cs := #[.int .i64 0, .int .i64 0]) (t := 50) ?hr ?_; (case hd => rfl); (case hg => rfl); (case hr => first | (go_simp; done) | (go_simp; rfl))
         intro gb385 hg w32 hbox hb
         have BK385 := aM (hbox); have GW385 := gZ HB hg; have GE385 := gZ HB hg; have NB366_385 := nG BK366 hg; have NB385_366 := nH BK366 hg; have NB383_385 := nG BK383 hg; have NB385_383 := nH BK383 hg; have NB384_385 := nG BK384 hg; have NB385_384 := nH BK384 hg; replace BK366 := bB BK366 hb; replace BK383 := bB BK383 hb; replace BK384 := bB BK384 hb; replace HB := tB HB hb; clear hb hbox hg
         refine hK.out _ _ ⟨vZ0 BK366, vZ1 BK366, (hC HB hw372_0 :), (hC HB hw372_1 :)⟩ (fun hHeld => ?_)
         clear hK K
         refine nU ?_
         exact norm_ (by first | (simp only [putAll, Act.put, sI, sZ, sS]; done) | (simp only [putAll, Act.put, sI, sZ, sS]; rfl)) (hJ5_9_11_15_17_18_19_20 (gb383, gb384, gb385) _ ⟨hHeld, (gQ BK366), (gQ BK383), (gQ BK384), (gQ BK385), GW383.out, GE383.out, NB366_383.out, NB383_366.out, NB384_383.out, NB383_384.out, NB385_383.out, NB383_385.out, GW384.out, GE384.out, NB366_384.out, NB384_366.out, NB385_384.out, NB384_385.out, GW385.out, GE385.out, NB366_385.out, NB385_366.out, bE⟩)
       rintro ⟨gb383, gb384, gb385⟩ w32 ⟨hS_, h0_, h1_, h2_, h3_, h4_, h5_, h6_, h7_, h8_, h9_, h10_, h11_, h12_, h13_, h14_, h15_, h16_, h17_, h18_, h19_, h20_, h21_, h22_⟩; (try dsimp only at hS_ h0_ h1_ h2_ h3_ h4_ h5_ h6_ h7_ h8_ h9_ h10_ h11_ h12_ h13_ h14_ h15_ h16_ h17_ h18_ h19_ h20_ h21_ h22_); clear BK366 HB; have BK366 := aM h0_; have BK383 := aM h1_; have BK384 := aM h2_; have BK385 := aM h3_; have GW383 := aM h4_; have GE383 := aM h5_; have NB366_383 := aM h6_; have NB383_366 := aM h7_; have NB384_383 := aM h8_; have NB383_384 := aM h9_; have NB385_383 := aM h10_; have NB383_385 := aM h11_; have GW384 := aM h12_; have GE384 := aM h13_; have NB366_384 := aM h14_; have NB384_366 := aM h15_; have NB385_384 := aM h16_; have NB384_385 := aM h17_; have GW385 := aM h18_; have GE385 := aM h19_; have NB366_385 := aM h20_; have NB385_366 := aM h21_; have HB := aM h22_; clear h0_ h1_ h2_ h3_ h4_ h5_ h6_ h7_ h8_ h9_ h10_ h11_ h12_ h13_ h14_ h15_ h16_ h17_ h18_ h19_ h20_ h21_ h22_; have hHeld := hS_
       refine norm_ (a' := ?_) ?_ ?_
       rotate_left
       ·simp only [putAll, Act.put, sI, sZ, sS]
        rfl
       refine one_ (i := 21) (N := none) (bA 24 4194303) rfl rfl (one_of HT_.out kR) (by decide) (fun K hK => ?_)
       have hs33 : w32.cell? ⟨gb383, 0, none⟩ = some (.int .i64 0) := vZ0 BK383; have hfs33 := kF BK383.out 0; have hns33_0 := NB366_383.out; have hns33_2 := NB384_383.out; have hns33_3 := NB385_383.out; have hms33_0 := NB383_366.out; have hms33_2 := NB383_384.out; have hms33_3 := NB383_385.out; have hs34 : w32.cell? ⟨gb383, 1, none⟩ = some (.int .i64 0) := vZ1 BK383; have hfs34 := kF BK383.out 1; have hns34_0 := NB366_383.out; have hns34_2 := NB384_383.out; have hns34_3 := NB385_383.out; have hms34_0 := NB383_366.out; have hms34_2 := NB383_384.out; have hms34_3 := NB383_385.out
       refine skip_ (w1 := ?_) (by rfl) rfl ?_ ?_
       rotate_left
       ·go_simp
        rfl
       refine hK.out _ _ ⟨((cell_far (p := ⟨gb383, _, none⟩) NB366_383.out _).trans (((cell_far (p := ⟨gb383, _, none⟩) NB366_383.out _).trans (hHeld.1)))), ((cell_far (p := ⟨gb383, _, none⟩) NB366_383.out _).trans (((cell_far (p := ⟨gb383, _, none⟩) NB366_383.out _).trans (hHeld.2.1)))), ((cell_far (p := ⟨gb383, _, none⟩) (by first | exact nN (nL (by have := wB _ _ hw372_0; first | rwa [add_block] at this | exact this) GW383.out) | (rw [add_block]; exact nN (nL (by have := wB _ _ hw372_0; first | rwa [add_block] at this | exact this) GW383.out)) | (show (Addr.add _ _).block ≠ _; rw [add_block]; exact nN (nL (by have := wB _ _ hw372_0; first | rwa [add_block] at this | exact this) GW383.out)) | (dsimp only; exact nN (nL (by have := wB _ _ hw372_0; first | rwa [add_block] at this | exact this) GW383.out))) _).trans (((cell_far (p := ⟨gb383, _, none⟩) (by first | exact nN (nL (by have := wB _ _ hw372_0; first | rwa [add_block] at this | exact this) GW383.out) | (rw [add_block]; exact nN (nL (by have := wB _ _ hw372_0; first | rwa [add_block] at this | exact this) GW383.out)) | (show (Addr.add _ _).block ≠ _; rw [add_block]; exact nN (nL (by have := wB _ _ hw372_0; first | rwa [add_block] at this | exact this) GW383.out)) | (dsimp only; exact nN (nL (by have := wB _ _ hw372_0; first | rwa [add_block] at this | exact this) GW383.out))) _).trans (hHeld.2.2.1)))), ((cell_far (p := ⟨gb383, _, none⟩) (by first | exact nN (nL (by have := wB _ _ hw372_1; first | rwa [add_block] at this | exact this) GW383.out) | (rw [add_block]; exact nN (nL (by have := wB _ _ hw372_1; first | rwa [add_block] at this | exact this) GW383.out)) | (show (Addr.add _ _).block ≠ _; rw [add_block]; exact nN (nL (by have := wB _ _ hw372_1; first | rwa [add_block] at this | exact this) GW383.out)) | (dsimp only; exact nN (nL (by have := wB _ _ hw372_1; first | rwa [add_block] at this | exact this) GW383.out))) _).trans (((cell_far (p := ⟨gb383, _, none⟩) (by first | exact nN (nL (by have := wB _ _ hw372_1; first | rwa [add_block] at this | exact this) GW383.out) | (rw [add_block]; exact nN (nL (by have := wB _ _ hw372_1; first | rwa [add_block] at this | exact this) GW383.out)) | (show (Addr.add _ _).block ≠ _; rw [add_block]; exact nN (nL (by have := wB _ _ hw372_1; first | rwa [add_block] at this | exact this) GW383.out)) | (dsimp only; exact nN (nL (by have := wB _ _ hw372_1; first | rwa [add_block] at this | exact this) GW383.out))) _).trans (hHeld.2.2.2))))⟩ (fun hHeld => ?_)
       clear hK K
       refine one_ (i := 22) (N := none) (bA 24 8388607) rfl rfl (one_of HT_.out kR) (by decide) (fun K hK => ?_)
       have hs35 : w32.cell? ⟨gb384, 0, none⟩ = some (.int .i64 0) := vZ0 BK384; have hfs35 := kF BK384.out 0; have hns35_0 := NB366_384.out; have hns35_1 := NB383_384.out; have hns35_3 := NB385_384.out; have hms35_0 := NB384_366.out; have hms35_1 := NB384_383.out; have hms35_3 := NB384_385.out; have hs36 : w32.cell? ⟨gb384, 1, none⟩ = some (.int .i64 0) := vZ1 BK384; have hfs36 := kF BK384.out 1; have hns36_0 := NB366_384.out; have hns36_1 := NB383_384.out; have hns36_3 := NB385_384.out; have hms36_0 := NB384_366.out; have hms36_1 := NB384_383.out; have hms36_3 := NB384_385.out
       refine skip_ (w1 := ?_) (by rfl) rfl ?_ ?_
       rotate_left
       ·go_simp
        rfl
       refine hK.out _ _ ⟨((cell_far (p := ⟨gb384, _, none⟩) NB366_384.out _).trans (((cell_far (p := ⟨gb384, _, none⟩) NB366_384.out _).trans (hHeld.1)))), ((cell_far (p := ⟨gb384, _, none⟩) NB366_384.out _).trans (((cell_far (p := ⟨gb384, _, none⟩) NB366_384.out _).trans (hHeld.2.1)))), ((cell_far (p := ⟨gb384, _, none⟩) (by first | exact nN (nL (by have := wB _ _ hw372_0; first | rwa [add_block] at this | exact this) GW384.out) | (rw [add_block]; exact nN (nL (by have := wB _ _ hw372_0; first | rwa [add_block] at this | exact this) GW384.out)) | (show (Addr.add _ _).block ≠ _; rw [add_block]; exact nN (nL (by have := wB _ _ hw372_0; first | rwa [add_block] at this | exact this) GW384.out)) | (dsimp only; exact nN (nL (by have := wB _ _ hw372_0; first | rwa [add_block] at this | exact this) GW384.out))) _).trans (((cell_far (p := ⟨gb384, _, none⟩) (by first | exact nN (nL (by have := wB _ _ hw372_0; first | rwa [add_block] at this | exact this) GW384.out) | (rw [add_block]; exact nN (nL (by have := wB _ _ hw372_0; first | rwa [add_block] at this | exact this) GW384.out)) | (show (Addr.add _ _).block ≠ _; rw [add_block]; exact nN (nL (by have := wB _ _ hw372_0; first | rwa [add_block] at this | exact this) GW384.out)) | (dsimp only; exact nN (nL (by have := wB _ _ hw372_0; first | rwa [add_block] at this | exact this) GW384.out))) _).trans (hHeld.2.2.1)))), ((cell_far (p := ⟨gb384, _, none⟩) (by first | exact nN (nL (by have := wB _ _ hw372_1; first | rwa [add_block] at this | exact this) GW384.out) | (rw [add_block]; exact nN (nL (by have := wB _ _ hw372_1; first | rwa [add_block] at this | exact this) GW384.out)) | (show (Addr.add _ _).block ≠ _; rw [add_block]; exact nN (nL (by have := wB _ _ hw372_1; first | rwa [add_block] at this | exact this) GW384.out)) | (dsimp only; exact nN (nL (by have := wB _ _ hw372_1; first | rwa [add_block] at this | exact this) GW384.out))) _).trans (((cell_far (p := ⟨gb384, _, none⟩) (by first | exact nN (nL (by have := wB _ _ hw372_1; first | rwa [add_block] at this | exact this) GW384.out) | (rw [add_block]; exact nN (nL (by have := wB _ _ hw372_1; first | rwa [add_block] at this | exact this) GW384.out)) | (show (Addr.add _ _).block ≠ _; rw [add_block]; exact nN (nL (by have := wB _ _ hw372_1; first | rwa [add_block] at this | exact this) GW384.out)) | (dsimp only; exact nN (nL (by have := wB _ _ hw372_1; first | rwa [add_block] at this | exact this) GW384.out))) _).trans (hHeld.2.2.2))))⟩ (fun hHeld => ?_)
       clear hK K
       refine one_ (i := 23) (N := none) (bA 24 16777215) rfl rfl (one_of HT_.out kR) (by decide) (fun K hK => ?_)
       have hs37 : w32.cell? ⟨gb385, 0, none⟩ = some (.int .i64 0) := vZ0 BK385; have hfs37 := kF BK385.out 0; have hns37_0 := NB366_385.out; have hns37_1 := NB383_385.out; have hns37_2 := NB384_385.out; have hms37_0 := NB385_366.out; have hms37_1 := NB385_383.out; have hms37_2 := NB385_384.out; have hs38 : w32.cell? ⟨gb385, 1, none⟩ = some (.int .i64 0) := vZ1 BK385; have hfs38 := kF BK385.out 1; have hns38_0 := NB366_385.out; have hns38_1 := NB383_385.out; have hns38_2 := NB384_385.out; have hms38_0 := NB385_366.out; have hms38_1 := NB385_383.out; have hms38_2 := NB385_384.out
       refine skip_ (w1 := ?_) (by rfl) rfl ?_ ?_
       rotate_left
       ·go_simp
        rfl
       refine hK.out _ _ ⟨((cell_far (p := ⟨gb385, _, none⟩) NB366_385.out _).trans (((cell_far (p := ⟨gb385, _, none⟩) NB366_385.out _).trans (hHeld.1)))), ((cell_far (p := ⟨gb385, _, none⟩) NB366_385.out _).trans (((cell_far (p := ⟨gb385, _, none⟩) NB366_385.out _).trans (hHeld.2.1)))), ((cell_far (p := ⟨gb385, _, none⟩) (by first | exact nN (nL (by have := wB _ _ hw372_0; first | rwa [add_block] at this | exact this) GW385.out) | (rw [add_block]; exact nN (nL (by have := wB _ _ hw372_0; first | rwa [add_block] at this | exact this) GW385.out)) | (show (Addr.add _ _).block ≠ _; rw [add_block]; exact nN (nL (by have := wB _ _ hw372_0; first | rwa [add_block] at this | exact this) GW385.out)) | (dsimp only; exact nN (nL (by have := wB _ _ hw372_0; first | rwa [add_block] at this | exact this) GW385.out))) _).trans (((cell_far (p := ⟨gb385, _, none⟩) (by first | exact nN (nL (by have := wB _ _ hw372_0; first | rwa [add_block] at this | exact this) GW385.out) | (rw [add_block]; exact nN (nL (by have := wB _ _ hw372_0; first | rwa [add_block] at this | exact this) GW385.out)) | (show (Addr.add _ _).block ≠ _; rw [add_block]; exact nN (nL (by have := wB _ _ hw372_0; first | rwa [add_block] at this | exact this) GW385.out)) | (dsimp only; exact nN (nL (by have := wB _ _ hw372_0; first | rwa [add_block] at this | exact this) GW385.out))) _).trans (hHeld.2.2.1)))), ((cell_far (p := ⟨gb385, _, none⟩) (by first | exact nN (nL (by have := wB _ _ hw372_1; first | rwa [add_block] at this | exact this) GW385.out) | (rw [add_block]; exact nN (nL (by have := wB _ _ hw372_1; first | rwa [add_block] at this | exact this) GW385.out)) | (show (Addr.add _ _).block ≠ _; rw [add_block]; exact nN (nL (by have := wB _ _ hw372_1; first | rwa [add_block] at this | exact this) GW385.out)) | (dsimp only; exact nN (nL (by have := wB _ _ hw372_1; first | rwa [add_block] at this | exact this) GW385.out))) _).trans (((cell_far (p := ⟨gb385, _, none⟩) (by first | exact nN (nL (by have := wB _ _ hw372_1; first | rwa [add_block] at this | exact this) GW385.out) | (rw [add_block]; exact nN (nL (by have := wB _ _ hw372_1; first | rwa [add_block] at this | exact this) GW385.out)) | (show (Addr.add _ _).block ≠ _; rw [add_block]; exact nN (nL (by have := wB _ _ hw372_1; first | rwa [add_block] at this | exact this) GW385.out)) | (dsimp only; exact nN (nL (by have := wB _ _ hw372_1; first | rwa [add_block] at this | exact this) GW385.out))) _).trans (hHeld.2.2.2))))⟩ (fun hHeld => ?_)
       clear hK K
       refine done_ (done_of HT_.out kR) ?_
       try go_wp2
       have n0_ : Aside0 (((((((w32.setCell ⟨gb383, 0, none⟩ (.int .i64 t373)).setCell ⟨gb383, 1, none⟩ (.int .i64 t374)).setCell ⟨gb384, 0, none⟩ (.int .i64 t377)).setCell ⟨gb384, 1, none⟩ (.int .i64 t378)).setCell ⟨gb385, 0, none⟩ (.int .i64 t381)).setCell ⟨gb385, 1, none⟩ (.int .i64 t382)).heap[gb366]? = some (.cells #[.int .i64 a1_0, .int .i64 a1_1] 50 (0, 0))) := ⟨fQ BK366⟩; have n1_ : Aside0 (((((((w32.setCell ⟨gb383, 0, none⟩ (.int .i64 t373)).setCell ⟨gb383, 1, none⟩ (.int .i64 t374)).setCell ⟨gb384, 0, none⟩ (.int .i64 t377)).setCell ⟨gb384, 1, none⟩ (.int .i64 t378)).setCell ⟨gb385, 0, none⟩ (.int .i64 t381)).setCell ⟨gb385, 1, none⟩ (.int .i64 t382)).heap[gb383]? = some (.cells #[.int .i64 t373, .int .i64 t374] 50 (0, 0))) := ⟨fQ BK383⟩; have n2_ : Aside0 (((((((w32.setCell ⟨gb383, 0, none⟩ (.int .i64 t373)).setCell ⟨gb383, 1, none⟩ (.int .i64 t374)).setCell ⟨gb384, 0, none⟩ (.int .i64 t377)).setCell ⟨gb384, 1, none⟩ (.int .i64 t378)).setCell ⟨gb385, 0, none⟩ (.int .i64 t381)).setCell ⟨gb385, 1, none⟩ (.int .i64 t382)).heap[gb384]? = some (.cells #[.int .i64 t377, .int .i64 t378] 50 (0, 0))) := ⟨fQ BK384⟩; have n3_ : Aside0 (((((((w32.setCell ⟨gb383, 0, none⟩ (.int .i64 t373)).setCell ⟨gb383, 1, none⟩ (.int .i64 t374)).setCell ⟨gb384, 0, none⟩ (.int .i64 t377)).setCell ⟨gb384, 1, none⟩ (.int .i64 t378)).setCell ⟨gb385, 0, none⟩ (.int .i64 t381)).setCell ⟨gb385, 1, none⟩ (.int .i64 t382)).heap[gb385]? = some (.cells #[.int .i64 t381, .int .i64 t382] 50 (0, 0))) := ⟨fQ BK385⟩; have n4_ : Aside0 (Below w.heap.size w ((((((w32.setCell ⟨gb383, 0, none⟩ (.int .i64 t373)).setCell ⟨gb383, 1, none⟩ (.int .i64 t374)).setCell ⟨gb384, 0, none⟩ (.int .i64 t377)).setCell ⟨gb384, 1, none⟩ (.int .i64 t378)).setCell ⟨gb385, 0, none⟩ (.int .i64 t381)).setCell ⟨gb385, 1, none⟩ (.int .i64 t382))) := ⟨bE⟩; (try clear BK366); (try clear BK383); (try clear BK384); (try clear BK385); (try clear HB)
       generalize ((((((w32.setCell ⟨gb383, 0, none⟩ (.int .i64 t373)).setCell ⟨gb383, 1, none⟩ (.int .i64 t374)).setCell ⟨gb384, 0, none⟩ (.int .i64 t377)).setCell ⟨gb384, 1, none⟩ (.int .i64 t378)).setCell ⟨gb385, 0, none⟩ (.int .i64 t381)).setCell ⟨gb385, 1, none⟩ (.int .i64 t382)) = w39 at n0_ n1_ n2_ n3_ n4_ ⊢
       have BK366 := n0_; have BK383 := n1_; have BK384 := n2_; have BK385 := n3_; have HB := n4_; clear n0_ n1_ n2_ n3_ n4_; replace BK366 := aM (kD BK366.out); replace BK383 := aM (kD BK383.out); replace BK384 := aM (kD BK384.out); replace BK385 := aM (kD BK385.out); replace HB := aM (pD HB.out)
       refine start_ (n := 9) (S := fun w' => w'.cell? ⟨gb383, 0, none⟩ = some (.int .i64 t373) ∧ w'.cell? ⟨gb383, 1, none⟩ = some (.int .i64 t374) ∧ w'.cell? ⟨gb384, 0, none⟩ = some (.int .i64 t377) ∧ w'.cell? ⟨gb384, 1, none⟩ = some (.int .i64 t378) ∧ w'.cell? ⟨gb385, 0, none⟩ = some (.int .i64 t381) ∧ w'.cell? ⟨gb385, 1, none⟩ = some (.int .i64 t382)) (ds := []) (bA 9 0) kR rfl kR ⟨vZ0 BK383, vZ1 BK383, vZ0 BK384, vZ1 BK384, vZ0 BK385, vZ1 BK385⟩ (fun hHeld => ?_); refine with_tabW impl_InCircle.tab8 impl_InCircle.bits8 (fun HT_ HW_ => ?_)
       generalize w39.drew = w40 at BK366 BK383 BK384 BK385 HB hHeld ⊢
       refine pU 0 42 (bA 9 1) HT_ ?_
       refine tU 1 43 (bA 9 3) HT_ HW_ hHeld ?_ (hy := Or.inl ⟨by rfl, by rintro w' ⟨s0, s1, s2, s3, s4, s5⟩; go_simp; with_reducible rfl⟩)
       refine tU 3 45 (bA 9 11) HT_ HW_ hHeld ?_ (hy := Or.inl ⟨by rfl, by rintro w' ⟨s0, s1, s2, s3, s4, s5⟩; go_simp; with_reducible rfl⟩)
       refine tU 4 46 (bA 9 27) HT_ HW_ hHeld ?_ (hy := Or.inl ⟨by rfl, by rintro w' ⟨s0, s1, s2, s3, s4, s5⟩; go_simp; with_reducible rfl⟩)
       refine oU 2 44 (bA 9 31) HT_ (fun K hK => ?_)
       refine goes_ Try.func107 kR rfl #[.agg #[.int .i64 t373, .int .i64 t374]] (by rfl) rfl rfl sQ ?_
       with_reducible refine (impl_Peg_square.calls t373 t374 t386 _ A21.out).mono ?_
       rintro e w41 ⟨rfl, hb⟩; refine ⟨_, rfl, ?_⟩; replace BK366 := bB BK366 hb; replace BK383 := bB BK383 hb; replace BK384 := bB BK384 hb; replace BK385 := bB BK385 hb; replace HB := tB HB hb; (try clear hb); (try clear hb2); (try clear hk); (try clear hi)
       refine hK.out _ _ ⟨vZ0 BK383, vZ1 BK383, vZ0 BK384, vZ1 BK384, vZ0 BK385, vZ1 BK385⟩ (fun hHeld => ?_)
       clear hK K
       refine nU ?_
       refine oU 5 47 (bA 9 63) HT_ (fun K hK => ?_)
       refine goes_ Try.func108 kR rfl #[.agg #[.int .i64 t377, .int .i64 t378], .agg #[.int .i64 t381, .int .i64 t382]] (by rfl) rfl rfl sQ ?_
       with_reducible refine (impl_cross.calls t377 t378 t381 t382 t387 _ A22.out).mono ?_
       rintro e w42 ⟨rfl, hb⟩; refine ⟨_, rfl, ?_⟩; replace BK366 := bB BK366 hb; replace BK383 := bB BK383 hb; replace BK384 := bB BK384 hb; replace BK385 := bB BK385 hb; replace HB := tB HB hb; (try clear hb); (try clear hb2); (try clear hk); (try clear hi)
       refine hK.out _ _ ⟨vZ0 BK383, vZ1 BK383, vZ0 BK384, vZ1 BK384, vZ0 BK385, vZ1 BK385⟩ (fun hHeld => ?_)
       clear hK K
       refine nU ?_
       refine pU 6 48 (bA 9 127) HT_ ?_; refine pU 7 49 (bA 9 255) HT_ ?_; refine pU 8 6 (bA 9 511) HT_ ?_
       refine done_ (done_of HT_.out kR) ?_
       try go_wp2
       go_roundg k2
       case measure => have := HJ2.out; have := HK2.out; omega
       case rel => exact ⟨(wrap64 (x6_2 + (wrap64 (t386 * t387)))), (wrap64 (x21_2 + 1)), eQ, eQ, H', ⟨by have := HJ2.out; have := HK2.out; omega⟩, ⟨gQ BK366⟩, ⟨bE⟩⟩
      ·rw [if_neg c13] at H; have c13b0 := decide_eq_false c13; clear c13; replace H := bS H; obtain ⟨t369, A43, H⟩ := H; replace H := bS H; obtain ⟨t370, A44, H⟩ := H; replace H := bS H; obtain ⟨t371, A45, H⟩ := H
       simp only [Option.some.injEq, Prod.mk.injEq] at H
       obtain ⟨rfl, rfl⟩ := H
       go_wp2_with (first | ((with_reducible refine gC (f := 109) rfl ?_); refine goesL_ (some 52) rfl rfl Try.func109 kR rfl #[.int .i64 x6_2] rfl sQ ?_; (with_reducible refine (impl_sign.calls x6_2 t369 _ A43.out).mono ?_); rintro e w46 ⟨rfl, hb⟩; refine ⟨_, rfl, ?_⟩; replace BK366 := bB BK366 hb; replace HB := tB HB hb; (try clear hb); (try clear hb2); (try clear hk); (try clear hi)) | ((with_reducible refine gC (f := 72) rfl ?_); refine goesL_ (some 54) rfl rfl Try.func72 kR rfl #[.slice A0 l0.length c0] rfl sQ ?_; (with_reducible refine (impl_twice.calls k2 _ _ l0 t370 _ ?side1 ?side2 A44.out).mono ?_); (case side1 => repeat (first | exact (Kd.C_below HR0.out HB.out) | (with_reducible refine cA ?_ _) | (with_reducible refine cN ?_ _) | (with_reducible refine cD ?_))); (case side2 => exact HC0.out); rintro e w47 ⟨rfl, hb⟩; refine ⟨_, rfl, ?_⟩; replace BK366 := bB BK366 hb; replace HB := tB HB hb; (try clear hb); (try clear hb2); (try clear hk); (try clear hi)) | ((with_reducible refine gC (f := 109) rfl ?_); refine goesL_ (some 55) rfl rfl Try.func109 kR rfl #[.int .i64 t370] rfl sQ ?_; (with_reducible refine (impl_sign.calls t370 t371 _ A45.out).mono ?_); rintro e w48 ⟨rfl, hb⟩; refine ⟨_, rfl, ?_⟩; replace BK366 := bB BK366 hb; replace HB := tB HB hb; (try clear hb); (try clear hb2); (try clear hk); (try clear hi)))
       go_ret2
       exact ⟨wQ, bE⟩

end Go.Proofs.Ytfihohongkfibaa.X
