-- thin
-- short
-- compact
import Derived.Test.YtfihohongkfibaaXA
import Derived.Test.YtfihohongkfibaaX0
import Derived.Test.YtfihohongkfibaaX17
namespace Go.Proofs.Ytfihohongkfibaa.X
open Go.RowKit Go.Proofs.Ytfihohongkfibaa.XW Go.Proofs.YtfihohongkfibaaW.PrintWords Go.Proofs.YtfihohongkfibaaW.PrintLast Go.Proofs.YtfihohongkfibaaW.PrintMore
attribute [local go_sem] max2_int min2_int max_two min_two max_three min_three max_four min_four   -- for this text's walks alone
set_option linter.unusedVariables false
set_option linter.unusedSimpArgs false

def slices_Equal_int.l0 : Nat → List Int → List Int → Int → Int → Option (Bool)
 | 0, _, _, _, _ => none
 | k + 1, x0, x1, x12, x13 => if x13 < x12 then (if 0 ≤ x13 then (if x13 < (x0.length : Int) then (if x13 < (x1.length : Int) then (if (rd x0 x13) = (rd x1 x13) then (slices_Equal_int.l0 k x0 x1 x12 (wrap64 (x13 + 1))) else (some false)) else (none)) else (none)) else (none)) else (some true)
def slices_Equal_int.f (k : Nat) (l0 : List Int) (l1 : List Int) : Option (Bool) := if (l0.length : Int) = (l1.length : Int) then (slices_Equal_int.l0 k l0 l1 (l0.length : Int) 0) else (some false)
theorem slices_Equal_int.mono_l : ∀ k, (∀ y0 y1 y2 y3, LeO (slices_Equal_int.l0 k y0 y1 y2 y3) (slices_Equal_int.l0 (k + 1) y0 y1 y2 y3))
 | 0 => fun _ _ _ _ r h => by simp [slices_Equal_int.l0] at h
 | k + 1 => by
  have ih0 := slices_Equal_int.mono_l k
  ·intro y0 y1 y2 y3
   unfold slices_Equal_int.l0
   repeat' first
   | (with_reducible exact ih0 _ _ _ _)
   | (with_reducible exact LeO.refl _)
   | (with_reducible exact LeO.none _)
   | (with_reducible refine LeO.ite ?_ ?_)
   | (with_reducible refine LeO.bind ?_ (fun _ => ?_))
   | exact ih0 _ _ _ _
   | exact LeO.none _
   | refine LeO.ite ?_ ?_
   | refine LeO.bind ?_ (fun _ => ?_)
theorem slices_Equal_int.mono : ∀ a0 a1 k, LeO (slices_Equal_int.f k a0 a1) (slices_Equal_int.f (k + 1) a0 a1) := by
 intro a0 a1 k
 have ih0 := slices_Equal_int.mono_l k
 unfold slices_Equal_int.f
 repeat' first | (with_reducible exact ih0 _ _ _ _) | (with_reducible exact LeO.refl _) | (with_reducible exact LeO.none _) | (with_reducible refine LeO.ite ?_ ?_) | (with_reducible refine LeO.bind ?_ (fun _ => ?_)) | exact ih0 _ _ _ _ | exact LeO.none _ | refine LeO.ite ?_ ?_ | refine LeO.bind ?_ (fun _ => ?_)
set_option maxHeartbeats 8000000 in
set_option maxRecDepth 100000 in
theorem slices_Equal_int.calls (k : Nat) (A0 : Option Addr) (c0 : Nat) (l0 : List Int) (A1 : Option Addr) (c1 : Nat) (l1 : List Int) (r : Bool) (w : World) (hr0 : Kd.C (Kd.int .i64) w A0 l0.length l0) (hc0 : l0.length ≤ c0) (hr1 : Kd.C (Kd.int .i64) w A1 l1.length l1) (hc1 : l1.length ≤ c1) (h : slices_Equal_int.f k l0 l1 = some r) :
  Calls Try.prog 94 #[.slice A0 l0.length c0, .slice A1 l1.length c1] w fun e w' => e = .returned (.bool r) ∧ Drawn0 w w' := by
 have HR0 := aM hr0; have HC0 := aM hc0; clear hr0 hc0; have HR1 := aM hr1; have HC1 := aM hc1; clear hr1 hc1
 unfold slices_Equal_int.f at h; have H := h; clear h
 by_cases c3 : (l0.length : Int) = (l1.length : Int)
 ·rw [if_pos c3] at H; have c3b0 : ((l0.length : Int) == (l1.length : Int)) = true := beq_iff_eq.mpr c3; have c3b1 : ((l0.length : Int) != (l1.length : Int)) = false := bne_eq_false_iff_eq.mpr c3; have c3b2 : (l0.length == l1.length) = true := by first | simpa using c3 | (simp at c3 ⊢; omega)
  clear c3; have H' := aM H; clear H
  go_enter Try.func94, Try.ntmps94
  go_wp2
  repeat (go_quiet (fail); try go_wp2)
  go_loopg [13] k (fun kq v13 w' => ∃ (x13_1 : Int), v13 = .int .i64 x13_1 ∧ Aside0 (slices_Equal_int.l0 kq l0 l1 (l0.length : Int) x13_1 = some r) ∧ Aside0 (kq ≤ k) ∧ Drawn0 w w')
  case atStart => exact ⟨(0), eQ, H', ⟨Nat.le_refl _⟩, dQ⟩
  case round =>
   clear H'; (try clear c1); (try clear c3); (try clear c3b0); (try clear c3b1); (try clear c3b2); obtain ⟨x13_1, rfl, HA, HK1, ⟨m1, rfl⟩⟩ := hrel
   cases gk with
   | zero => exact absurd HA.out (by simp [slices_Equal_int.l0])
   | succ k1 =>
    have H := HA.out; clear HA
    simp only [slices_Equal_int.l0] at H
    by_cases c4 : x13_1 < (l0.length : Int)
    ·rw [if_pos c4] at H; have c4b0 := dE c4; clear c4; replace H := iD H; obtain ⟨c5b0, H⟩ := H; replace H := iD H; obtain ⟨c6b0, H⟩ := H; replace H := iD H; obtain ⟨c7b0, H⟩ := H
     by_cases c8 : (rd l0 x13_1) = (rd l1 x13_1)
     ·rw [if_pos c8] at H; have c8b0 : ((rd l0 x13_1) == (rd l1 x13_1)) = true := beq_iff_eq.mpr c8; have c8b1 : ((rd l0 x13_1) != (rd l1 x13_1)) = false := bne_eq_false_iff_eq.mpr c8; clear c8; have H' := aM H; clear H; have p510 : 0 ≤ (x13_1 : Int) := dT aQ; have q510 : x13_1 < (l0.length : Int) := dT aQ; obtain ⟨ad510, e510, hx510_0⟩ := Kd.at_int HR0.out x13_1 p510 q510
      cases e510
      replace p510 := eq_true p510; replace q510 := eq_true q510; have p511 : 0 ≤ (x13_1 : Int) := dT aQ; have q511 : x13_1 < (l1.length : Int) := dT aQ; obtain ⟨ad511, e511, hx511_0⟩ := Kd.at_int HR1.out x13_1 p511 q511
      cases e511
      replace p511 := eq_true p511; replace q511 := eq_true q511; go_wp2
      repeat (go_quiet (fail); try go_wp2)
      go_roundg k1
      case measure => have := HK1.out; omega
      case rel => exact ⟨(wrap64 (x13_1 + 1)), eQ, H', ⟨by have := HK1.out; omega⟩, dQ⟩
     ·rw [if_neg c8] at H; have c8b0 : ((rd l0 x13_1) == (rd l1 x13_1)) = false := beq_eq_false_iff_ne.mpr c8; have c8b1 : ((rd l0 x13_1) != (rd l1 x13_1)) = true := bne_iff_ne.mpr c8; obtain rfl := Option.some.inj H; have p510 : 0 ≤ (x13_1 : Int) := dT aQ; have q510 : x13_1 < (l0.length : Int) := dT aQ; obtain ⟨ad510, e510, hx510_0⟩ := Kd.at_int HR0.out x13_1 p510 q510
      cases e510
      replace p510 := eq_true p510; replace q510 := eq_true q510; have p511 : 0 ≤ (x13_1 : Int) := dT aQ; have q511 : x13_1 < (l1.length : Int) := dT aQ; obtain ⟨ad511, e511, hx511_0⟩ := Kd.at_int HR1.out x13_1 p511 q511
      cases e511
      replace p511 := eq_true p511; replace q511 := eq_true q511; go_wp2
      repeat (go_quiet (fail); try go_wp2)
      go_ret
      exact ⟨eQ, dQ⟩
    ·rw [if_neg c4] at H; have c4b0 := decide_eq_false c4; clear c4; obtain rfl := Option.some.inj H; go_wp2
     repeat (go_quiet (fail); try go_wp2)
     go_ret
     exact ⟨eQ, dQ⟩
 ·rw [if_neg c3] at H; have c3b0 : ((l0.length : Int) == (l1.length : Int)) = false := beq_eq_false_iff_ne.mpr c3; have c3b1 : ((l0.length : Int) != (l1.length : Int)) = true := bne_iff_ne.mpr c3; have c3b2 : (l0.length == l1.length) = false := by first | simpa using c3 | (simp at c3 ⊢; omega)
  obtain rfl := Option.some.inj H
  go_enter Try.func94, Try.ntmps94
  go_wp2
  repeat (go_quiet (fail); try go_wp2)
  go_ret
  exact ⟨eQ, dQ⟩

def impl_kindOf.f (k : Nat) (l0 : List (S_impl_Peg)) : Option (List Int) := (impl_firstFrame.f k l0).bind fun t512 => (if 1 < (t512.length : Int) then (if 2 < (t512.length : Int) then (some (([(rd_impl_Peg t512 1).f0, (rd_impl_Peg t512 2).f0, (rd_impl_Peg t512 2).f1] : List Int))) else (none)) else (none))
theorem impl_kindOf.mono : ∀ a0 k, LeO (impl_kindOf.f k a0) (impl_kindOf.f (k + 1) a0) := by
 intro a0 k
 unfold impl_kindOf.f
 repeat' first | (with_reducible exact impl_firstFrame.mono _ _) | (with_reducible exact LeO.refl _) | (with_reducible exact LeO.none _) | (with_reducible refine LeO.ite ?_ ?_) | (with_reducible refine LeO.bind ?_ (fun _ => ?_)) | exact impl_firstFrame.mono _ _ | exact LeO.none _ | refine LeO.ite ?_ ?_ | refine LeO.bind ?_ (fun _ => ?_)
def impl_kindOf.T2 : Bool × List (List Nat × List Nat) := (true, [([], []), ([0], [0]), ([1], [1]), ([2], [2]), ([], []), ([4], [4]), ([5], [5]), ([6], [6]), ([], []), ([8], [8]), ([9], [9]), ([10], [10]), ([3, 7, 11], [3, 7, 11]), ([12, 0, 1, 2, 3, 4, 5, 6, 7, 8, 9, 10, 11, 12], [12])])
def impl_kindOf.B2 : List Nat := [0, 1, 3, 7, 0, 16, 48, 112, 0, 256, 768, 1792, 4095, 8191]
theorem impl_kindOf.tab2 : rtab .any (opsOf Try.f95 2) = impl_kindOf.T2 := by kernel_rfl
theorem impl_kindOf.bits2 : waitsOk impl_kindOf.T2.2 impl_kindOf.B2 = true := by kernel_rfl
set_option maxHeartbeats 8000000 in
set_option maxRecDepth 100000 in
theorem impl_kindOf.calls (k : Nat) (A0 : Option Addr) (c0 : Nat) (l0 : List (S_impl_Peg)) (r : List Int) (w : World) (hr0 : Kd.C kd_impl_Peg w A0 l0.length l0) (hc0 : l0.length ≤ c0) (h : impl_kindOf.f k l0 = some r) :
  Calls Try.prog 95 #[.slice A0 l0.length c0] w fun e w' => ∃ v0_ : Value, e = .returned (v0_) ∧ Kd.R (Kd.int .i64) 3 w' w.heap.size (fun _ => True) v0_ r ∧ Below w.heap.size w w' := by
 have HR0 := aM hr0; have HC0 := aM hc0; clear hr0 hc0; have HB := aM (Below.refl w.heap.size w)
 unfold impl_kindOf.f at h; have H := h; clear h
 replace H := bS H; obtain ⟨t512, A2, H⟩ := H; replace H := iN H; obtain ⟨c3, H⟩ := H; have c3b0 := dE c3; have c3b1 : decide (1 < t512.length) = true := dE (by omega)
 clear c3; replace H := iN H; obtain ⟨c4, H⟩ := H; have c4b0 := dE c4; have c4b1 : decide (2 < t512.length) = true := dE (by omega)
 clear c4; obtain ⟨y518, hy518⟩ : ∃ y_ : List Int, y_ = (([(rd_impl_Peg t512 1).f0, (rd_impl_Peg t512 2).f0, (rd_impl_Peg t512 2).f1] : List Int)) := ⟨_, rfl⟩; rw [← hy518] at H; have Ny518 := aM hy518; clear hy518; obtain rfl := Option.some.inj H
 go_enter Try.func95, Try.ntmps95
 try go_wp2_with (first | ((with_reducible refine gC (f := 89) rfl ?_); refine goesL_ (some 5) rfl rfl Try.func89 kR rfl #[.slice A0 l0.length c0] rfl sQ ?_; (with_reducible refine (impl_firstFrame.calls k _ _ l0 t512 _ ?side1 ?side2 A2.out).mono ?_); (case side1 => repeat (first | exact HR0.out | (with_reducible refine cA ?_ _) | (with_reducible refine cN ?_ _) | (with_reducible refine cD ?_))); (case side2 => exact HC0.out); rintro e w5 ⟨v513, rfl, ho0, hb⟩; refine ⟨_, rfl, ?_⟩; have HO514 := aM (Kd.R_lower ho0 (pZ bQ)); replace HB := tB HB hb; (try clear hb); (try clear hb2); (try clear hk); (try clear hi); (try clear ho0)))
 replace HO514 := aM (rD HO514.out); replace HB := aM (pD HB.out); obtain ⟨Ao7, co7, eo7⟩ := Kd.R_slice HO514.out
 (first | subst eo7 | (injection eo7 with f1_ f2_ f3_; have f4_ := f1_.symm; have f5_ := f3_.symm; clear f1_ f2_ f3_; subst f4_; subst f5_))
 have p515 : 0 ≤ (1 : Int) := (by omega)
 have q515 : 1 < (t512.length : Int) := dT aQ; obtain ⟨ad515, e515, hx515_0, hx515_1⟩ := at_impl_Peg (rR HO514.out).2.2 1 p515 q515
 cases e515
 (try simp only [show (1 : Int).toNat = 1 from rfl, Nat.reduceMul, Nat.reduceEqDiff, Go.Addr.add, ↓reduceIte] at hx515_0)
 (try simp only [show (1 : Int).toNat = 1 from rfl, Nat.reduceMul, Nat.reduceEqDiff, Go.Addr.add, ↓reduceIte] at hx515_1)
 have qi515 : (1 < t512.length) = True := eq_true (by omega)
 (try rw [show ((1 : Int)).toNat = 1 from rfl] at hx515_0)
 (try rw [show 1 * 2 = 2 from rfl] at hx515_0)
 (try rw [show ((1 : Int)).toNat = 1 from rfl] at hx515_1)
 (try rw [show 1 * 2 = 2 from rfl] at hx515_1)
 replace p515 := eq_true p515; replace q515 := eq_true q515; have p516 : 0 ≤ (2 : Int) := (by omega)
 have q516 : 2 < (t512.length : Int) := dT aQ; obtain ⟨ad516, e516, hx516_0, hx516_1⟩ := at_impl_Peg (rR HO514.out).2.2 2 p516 q516; obtain rfl : ad515 = ad516 := (by injection e516)
 (try simp only [show (2 : Int).toNat = 2 from rfl, Nat.reduceMul, Nat.reduceEqDiff, Go.Addr.add, ↓reduceIte] at hx516_0)
 (try simp only [show (2 : Int).toNat = 2 from rfl, Nat.reduceMul, Nat.reduceEqDiff, Go.Addr.add, ↓reduceIte] at hx516_1)
 have qi516 : (2 < t512.length) = True := eq_true (by omega)
 (try rw [show ((2 : Int)).toNat = 2 from rfl] at hx516_0)
 (try rw [show 2 * 2 = 4 from rfl] at hx516_0)
 (try rw [show ((2 : Int)).toNat = 2 from rfl] at hx516_1)
 (try rw [show 2 * 2 = 4 from rfl] at hx516_1)
 replace p516 := eq_true p516; replace q516 := eq_true q516; have p517 : 0 ≤ (2 : Int) := (by omega)
 have q517 : 2 < (t512.length : Int) := dT aQ; obtain ⟨ad517, e517, hx517_0, hx517_1⟩ := at_impl_Peg (rR HO514.out).2.2 2 p517 q517; obtain rfl : ad515 = ad517 := (by injection e517)
 (try simp only [show (2 : Int).toNat = 2 from rfl, Nat.reduceMul, Nat.reduceEqDiff, Go.Addr.add, ↓reduceIte] at hx517_0)
 (try simp only [show (2 : Int).toNat = 2 from rfl, Nat.reduceMul, Nat.reduceEqDiff, Go.Addr.add, ↓reduceIte] at hx517_1)
 have qi517 : (2 < t512.length) = True := eq_true (by omega)
 (try rw [show ((2 : Int)).toNat = 2 from rfl] at hx517_0)
 (try rw [show 2 * 2 = 4 from rfl] at hx517_0)
 (try rw [show ((2 : Int)).toNat = 2 from rfl] at hx517_1)
 (try rw [show 2 * 2 = 4 from rfl] at hx517_1)
 replace p517 := eq_true p517; replace q517 := eq_true q517
 refine start_ (n := 14) (S := fun w' => w'.cell? ⟨ad515.block, ad515.off + 2, none⟩ = some (.int .i64 ((rd_impl_Peg t512 1).f0)) ∧ w'.cell? ⟨ad515.block, ad515.off + 2 + 1, none⟩ = some (.int .i64 ((rd_impl_Peg t512 1).f1)) ∧ w'.cell? ⟨ad515.block, ad515.off + 4, none⟩ = some (.int .i64 ((rd_impl_Peg t512 2).f0)) ∧ w'.cell? ⟨ad515.block, ad515.off + 4 + 1, none⟩ = some (.int .i64 ((rd_impl_Peg t512 2).f1)) ∧ w'.cell? ⟨ad515.block, ad515.off + 4, none⟩ = some (.int .i64 ((rd_impl_Peg t512 2).f0)) ∧ w'.cell? ⟨ad515.block, ad515.off + 4 + 1, none⟩ = some (.int .i64 ((rd_impl_Peg t512 2).f1))) (ds := []) (bA 14 0) kR rfl kR ⟨hx515_0, hx515_1, hx516_0, hx516_1, hx517_0, hx517_1⟩ (fun hHeld => ?_); refine with_tabW impl_kindOf.tab2 impl_kindOf.bits2 (fun HT_ HW_ => ?_)
 generalize w5.drew = w6 at HO514 HB hx515_0 hx515_1 hx516_0 hx516_1 hx517_0 hx517_1 hHeld ⊢
 refine pU 0 6 (bA 14 1) HT_ ?_; refine pU 1 7 (bA 14 3) HT_ ?_; refine pU 2 8 (bA 14 7) HT_ ?_; refine pU 4 10 (bA 14 23) HT_ ?_; refine pU 5 11 (bA 14 55) HT_ ?_; refine pU 6 12 (bA 14 119) HT_ ?_; refine pU 8 14 (bA 14 375) HT_ ?_; refine pU 9 15 (bA 14 887) HT_ ?_; refine pU 10 16 (bA 14 1911) HT_ ?_
 refine tU 3 9 (bA 14 1919) HT_ HW_ hHeld ?_ (hy := Or.inl ⟨by rfl, by rintro w' ⟨s0, s1, s2, s3, s4, s5⟩; go_simp; with_reducible rfl⟩)
 refine tU 7 13 (bA 14 2047) HT_ HW_ hHeld ?_ (hy := Or.inl ⟨by rfl, by rintro w' ⟨s0, s1, s2, s3, s4, s5⟩; go_simp; with_reducible rfl⟩)
 refine tU 11 17 (bA 14 4095) HT_ HW_ hHeld ?_ (hy := Or.inl ⟨by rfl, by rintro w' ⟨s0, s1, s2, s3, s4, s5⟩; go_simp; with_reducible rfl⟩)
 refine oU 12 18 (bA 14 8191) HT_ (fun K hK => ?_)
 refine Kd.R_lit_step (Kd.int .i64) _ 3 ?hg (N := 18) ?hd (xs := ([(rd_impl_Peg t512 1).f0, (rd_impl_Peg t512 2).f0, (rd_impl_Peg t512 2).f1] : List Int)) (inner := [.int .i64 ((rd_impl_Peg t512 1).f0), .int .i64 ((rd_impl_Peg t512 2).f0), .int .i64 ((rd_impl_Peg t512 2).f1)]) (ok := fun _ => True) (okp := fun _ => True) ?hr ?hp (fun _ hk => hk) trivial (Below.refl _ _) (Nat.le_refl _) (by simp) ?_; (case hd => rfl); (case hg => rfl); (case hr => first | (go_simp; done) | (go_simp; rfl)); (case hp => exact (Reps.one (show Kd.M (Kd.int .i64) _ _ _ ((rd_impl_Peg t512 1).f0) [.int .i64 ((rd_impl_Peg t512 1).f0)] from rfl) (Reps.one (show Kd.M (Kd.int .i64) _ _ _ ((rd_impl_Peg t512 2).f0) [.int .i64 ((rd_impl_Peg t512 2).f0)] from rfl) (Reps.one (show Kd.M (Kd.int .i64) _ _ _ ((rd_impl_Peg t512 2).f1) [.int .i64 ((rd_impl_Peg t512 2).f1)] from rfl) (Reps.none _ _)))))
 intro v519 w8 ho9 hb hg_ hnew_
 have HS0_ := (hb.cell (wB _ _ (hHeld.1))).trans (hHeld.1); have HS1_ := (hb.cell (wB _ _ (hHeld.2.1))).trans (hHeld.2.1); have HS2_ := (hb.cell (wB _ _ (hHeld.2.2.1))).trans (hHeld.2.2.1); have HS3_ := (hb.cell (wB _ _ (hHeld.2.2.2.1))).trans (hHeld.2.2.2.1); have HS4_ := (hb.cell (wB _ _ (hHeld.2.2.2.2.1))).trans (hHeld.2.2.2.2.1); have HS5_ := (hb.cell (wB _ _ (hHeld.2.2.2.2.2))).trans (hHeld.2.2.2.2.2); clear hg_ hnew_
 (first | rw [← Ny518.out] at ho9 | (simp only [Int.reduceToNat] at ho9; rw [← Ny518.out] at ho9))
 have HO520 := aM (Kd.R_lower ho9 (pZ bQ)); replace HO514 := aM (Kd.R_below (by (with_reducible repeat (first | apply rA | apply rN | apply rD)); exact HO514.out) hb); replace HB := tB HB hb
 clear hb ho9
 refine hK.out _ _ ⟨HS0_, HS1_, HS2_, HS3_, HS4_, HS5_⟩ (fun hHeld => ?_)
 clear hK K
 refine nU ?_
 refine pU 13 2 (bA 14 16383) HT_ ?_
 refine done_ (done_of HT_.out kR) ?_
 try go_wp2
 go_ret
 exact ⟨_, by first | rfl | (simp [errW_none, errW_some] <;> rfl) | (simp [*, errW_none, errW_some] <;> rfl), by (with_reducible repeat (first | apply rA | apply rN | apply rD)); exact HO520.out, bQ⟩
def impl_triangle.f (a0 : Int) (a1 : Int) (a2 : Int) : Option ((List (S_impl_Peg))) := some (([(⟨0, 0⟩ : S_impl_Peg), (⟨a0, 0⟩ : S_impl_Peg), (⟨a1, a2⟩ : S_impl_Peg)] : List (S_impl_Peg)))
set_option maxHeartbeats 8000000 in
set_option maxRecDepth 100000 in
theorem impl_triangle.calls (a0 : Int) (a1 : Int) (a2 : Int) (r : List (S_impl_Peg)) (w : World) (h : impl_triangle.f a0 a1 a2 = some r) :
  Calls Try.prog 96 #[.int .i64 a0, .int .i64 a1, .int .i64 a2] w fun e w' => ∃ v0_ : Value, e = .returned (v0_) ∧ Kd.R kd_impl_Peg 50 w' w.heap.size (fun _ => True) v0_ r ∧ Below w.heap.size w w' := by
 have hu50 := Try.underlying50; have HB := aM (Below.refl w.heap.size w)
 unfold impl_triangle.f at h; have H := h; clear h
 obtain ⟨y521, hy521⟩ : ∃ y_ : List (S_impl_Peg), y_ = (([(⟨0, 0⟩ : S_impl_Peg), (⟨a0, 0⟩ : S_impl_Peg), (⟨a1, a2⟩ : S_impl_Peg)] : List (S_impl_Peg))) := ⟨_, rfl⟩; rw [← hy521] at H; have Ny521 := aM hy521; clear hy521; obtain rfl := Option.some.inj H
 go_enter Try.func96, Try.ntmps96
 go_wp2_with (first | ((with_reducible refine gate_dst (N := 13) rfl ?_); refine Kd.R_lit kd_impl_Peg _ 50 ?hg (N := 13) ?hd (xs := ([(⟨0, 0⟩ : S_impl_Peg), (⟨a0, 0⟩ : S_impl_Peg), (⟨a1, a2⟩ : S_impl_Peg)] : List (S_impl_Peg))) (inner := [.int .i64 0, .int .i64 0, .int .i64 a0, .int .i64 0, .int .i64 a1, .int .i64 a2]) (ok := fun _ => True) (okp := fun _ => True) ?hr ?hp (fun _ hk => hk) trivial (Below.refl _ _) (Nat.le_refl _) (by simp) ?_; (case hd => rfl); (case hg => rfl); (case hr => first | (go_simp; done) | (go_simp; rfl)); (case hp => exact (Reps.c2 (show Kd.M kd_impl_Peg _ _ _ (⟨0, 0⟩ : S_impl_Peg) [.int .i64 0, .int .i64 0] from (kd_impl_Peg_mkM _ _ _ (⟨0, 0⟩ : S_impl_Peg) )) (Reps.c2 (show Kd.M kd_impl_Peg _ _ _ (⟨a0, 0⟩ : S_impl_Peg) [.int .i64 a0, .int .i64 0] from (kd_impl_Peg_mkM _ _ _ (⟨a0, 0⟩ : S_impl_Peg) )) (Reps.c2 (show Kd.M kd_impl_Peg _ _ _ (⟨a1, a2⟩ : S_impl_Peg) [.int .i64 a1, .int .i64 a2] from (kd_impl_Peg_mkM _ _ _ (⟨a1, a2⟩ : S_impl_Peg) )) (Reps.none _ _))))); intro v522 w4 ho5 hb hg_ hnew_; clear hg_ hnew_; (first | rw [← Ny521.out] at ho5 | (simp only [Int.reduceToNat] at ho5; rw [← Ny521.out] at ho5)); have HO523 := aM (Kd.R_lower ho5 (pZ bQ)); replace HB := tB HB hb; clear hb ho5))
 go_ret
 exact ⟨_, by first | rfl | (simp [errW_none, errW_some] <;> rfl) | (simp [*, errW_none, errW_some] <;> rfl), by (with_reducible repeat (first | apply rA | apply rN | apply rD)); exact HO523.out, bQ⟩

end Go.Proofs.Ytfihohongkfibaa.X
