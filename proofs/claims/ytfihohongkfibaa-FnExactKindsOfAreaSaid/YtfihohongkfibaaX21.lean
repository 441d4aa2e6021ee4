-- thin
-- short
-- compact
import Derived.Test.YtfihohongkfibaaXA
import Derived.Test.YtfihohongkfibaaX0
import Derived.Test.YtfihohongkfibaaX3
import Derived.Test.YtfihohongkfibaaX9
namespace Go.Proofs.Ytfihohongkfibaa.X
open Go.RowKit Go.Proofs.Ytfihohongkfibaa.XW Go.Proofs.YtfihohongkfibaaW.PrintWords Go.Proofs.YtfihohongkfibaaW.PrintLast Go.Proofs.YtfihohongkfibaaW.PrintMore
attribute [local go_sem] max2_int min2_int max_two min_two max_three min_three max_four min_four   -- for this text's walks alone
set_option linter.unusedVariables false
set_option linter.unusedSimpArgs false

def spec_l1Same.l0 : Nat → List Int → List Int → Int → Int → Option (Bool)
 | 0, _, _, _, _ => none
 | k + 1, x0, x1, x12, x13 => if x13 < x12 then (if 0 ≤ x13 then (if x13 < (x0.length : Int) then (if x13 < (x1.length : Int) then (if (rd x0 x13) = (rd x1 x13) then (spec_l1Same.l0 k x0 x1 x12 (wrap64 (x13 + 1))) else (some false)) else (none)) else (none)) else (none)) else (some true)
def spec_l1Same.f (k : Nat) (l0 : List Int) (l1 : List Int) : Option (Bool) := if (l0.length : Int) = (l1.length : Int) then (spec_l1Same.l0 k l0 l1 (l0.length : Int) 0) else (some false)
theorem spec_l1Same.mono_l : ∀ k, (∀ y0 y1 y2 y3, LeO (spec_l1Same.l0 k y0 y1 y2 y3) (spec_l1Same.l0 (k + 1) y0 y1 y2 y3))
 | 0 => fun _ _ _ _ r h => by simp [spec_l1Same.l0] at h
 | k + 1 => by
  have ih0 := spec_l1Same.mono_l k
  ·intro y0 y1 y2 y3
   unfold spec_l1Same.l0
   repeat' first
   | (with_reducible exact ih0 _ _ _ _)
   | (with_reducible exact LeO.refl _)
   | (with_reducible exact LeO.none _)
   | (with_reducible refine LeO.ite ?_ ?_)
   | (with_reducible refine LeO.bind ?_ (fun _ => ?_))
   | exact ih0 _ _ _ _
   | exact LeO.none _
   | refine LeO.ite ?_ ?_
   | refine LeO.bind ?_ (fun _ => ?_)
theorem spec_l1Same.mono : ∀ a0 a1 k, LeO (spec_l1Same.f k a0 a1) (spec_l1Same.f (k + 1) a0 a1) := by
 intro a0 a1 k
 have ih0 := spec_l1Same.mono_l k
 unfold spec_l1Same.f
 repeat' first | (with_reducible exact ih0 _ _ _ _) | (with_reducible exact LeO.refl _) | (with_reducible exact LeO.none _) | (with_reducible refine LeO.ite ?_ ?_) | (with_reducible refine LeO.bind ?_ (fun _ => ?_)) | exact ih0 _ _ _ _ | exact LeO.none _ | refine LeO.ite ?_ ?_ | refine LeO.bind ?_ (fun _ => ?_)
set_option maxHeartbeats 8000000 in
set_option maxRecDepth 100000 in
theorem spec_l1Same.calls (k : Nat) (A0 : Option Addr) (c0 : Nat) (l0 : List Int) (A1 : Option Addr) (c1 : Nat) (l1 : List Int) (r : Bool) (w : World) (hr0 : Kd.C (Kd.int .i64) w A0 l0.length l0) (hc0 : l0.length ≤ c0) (hr1 : Kd.C (Kd.int .i64) w A1 l1.length l1) (hc1 : l1.length ≤ c1) (h : spec_l1Same.f k l0 l1 = some r) :
  Calls Try.prog 133 #[.slice A0 l0.length c0, .slice A1 l1.length c1] w fun e w' => e = .returned (.bool r) ∧ Drawn0 w w' := by
 have HR0 := aM hr0; have HC0 := aM hc0; clear hr0 hc0; have HR1 := aM hr1; have HC1 := aM hc1; clear hr1 hc1
 unfold spec_l1Same.f at h; have H := h; clear h
 by_cases c3 : (l0.length : Int) = (l1.length : Int)
 ·rw [if_pos c3] at H; have c3b0 : ((l0.length : Int) == (l1.length : Int)) = true := beq_iff_eq.mpr c3; have c3b1 : ((l0.length : Int) != (l1.length : Int)) = false := bne_eq_false_iff_eq.mpr c3; have c3b2 : (l0.length == l1.length) = true := by first | simpa using c3 | (simp at c3 ⊢; omega)
  clear c3; have H' := aM H; clear H
  go_enter Try.func133, Try.ntmps133
  go_wp2
  repeat (go_quiet (fail); try go_wp2)
  go_loopg [13] k (fun kq v13 w' => ∃ (x13_1 : Int), v13 = .int .i64 x13_1 ∧ Aside0 (spec_l1Same.l0 kq l0 l1 (l0.length : Int) x13_1 = some r) ∧ Aside0 (kq ≤ k) ∧ Drawn0 w w')
  case atStart => exact ⟨(0), eQ, H', ⟨Nat.le_refl _⟩, dQ⟩
  case round =>
   clear H'; (try clear c1); (try clear c3); (try clear c3b0); (try clear c3b1); (try clear c3b2); obtain ⟨x13_1, rfl, HA, HK1, ⟨m1, rfl⟩⟩ := hrel
   cases gk with
   | zero => exact absurd HA.out (by simp [spec_l1Same.l0])
   | succ k1 =>
    have H := HA.out; clear HA
    simp only [spec_l1Same.l0] at H
    by_cases c4 : x13_1 < (l0.length : Int)
    ·rw [if_pos c4] at H; have c4b0 := dE c4; clear c4; replace H := iD H; obtain ⟨c5b0, H⟩ := H; replace H := iD H; obtain ⟨c6b0, H⟩ := H; replace H := iD H; obtain ⟨c7b0, H⟩ := H
     by_cases c8 : (rd l0 x13_1) = (rd l1 x13_1)
     ·rw [if_pos c8] at H; have c8b0 : ((rd l0 x13_1) == (rd l1 x13_1)) = true := beq_iff_eq.mpr c8; have c8b1 : ((rd l0 x13_1) != (rd l1 x13_1)) = false := bne_eq_false_iff_eq.mpr c8; clear c8; have H' := aM H; clear H; have p476 : 0 ≤ (x13_1 : Int) := dT aQ; have q476 : x13_1 < (l0.length : Int) := dT aQ; obtain ⟨ad476, e476, hx476_0⟩ := Kd.at_int HR0.out x13_1 p476 q476
      cases e476
      replace p476 := eq_true p476; replace q476 := eq_true q476; have p477 : 0 ≤ (x13_1 : Int) := dT aQ; have q477 : x13_1 < (l1.length : Int) := dT aQ; obtain ⟨ad477, e477, hx477_0⟩ := Kd.at_int HR1.out x13_1 p477 q477
      cases e477
      replace p477 := eq_true p477; replace q477 := eq_true q477; go_wp2
      repeat (go_quiet (fail); try go_wp2)
      go_roundg k1
      case measure => have := HK1.out; omega
      case rel => exact ⟨(wrap64 (x13_1 + 1)), eQ, H', ⟨by have := HK1.out; omega⟩, dQ⟩
     ·rw [if_neg c8] at H; have c8b0 : ((rd l0 x13_1) == (rd l1 x13_1)) = false := beq_eq_false_iff_ne.mpr c8; have c8b1 : ((rd l0 x13_1) != (rd l1 x13_1)) = true := bne_iff_ne.mpr c8; obtain rfl := Option.some.inj H; have p476 : 0 ≤ (x13_1 : Int) := dT aQ; have q476 : x13_1 < (l0.length : Int) := dT aQ; obtain ⟨ad476, e476, hx476_0⟩ := Kd.at_int HR0.out x13_1 p476 q476
      cases e476
      replace p476 := eq_true p476; replace q476 := eq_true q476; have p477 : 0 ≤ (x13_1 : Int) := dT aQ; have q477 : x13_1 < (l1.length : Int) := dT aQ; obtain ⟨ad477, e477, hx477_0⟩ := Kd.at_int HR1.out x13_1 p477 q477
      cases e477
      replace p477 := eq_true p477; replace q477 := eq_true q477; go_wp2
      repeat (go_quiet (fail); try go_wp2)
      go_ret
      exact ⟨eQ, dQ⟩
    ·rw [if_neg c4] at H; have c4b0 := decide_eq_false c4; clear c4; obtain rfl := Option.some.inj H; go_wp2
     repeat (go_quiet (fail); try go_wp2)
     go_ret
     exact ⟨eQ, dQ⟩
 ·rw [if_neg c3] at H; have c3b0 : ((l0.length : Int) == (l1.length : Int)) = false := beq_eq_false_iff_ne.mpr c3; have c3b1 : ((l0.length : Int) != (l1.length : Int)) = true := bne_iff_ne.mpr c3; have c3b2 : (l0.length == l1.length) = false := by first | simpa using c3 | (simp at c3 ⊢; omega)
  obtain rfl := Option.some.inj H
  go_enter Try.func133, Try.ntmps133
  go_wp2
  repeat (go_quiet (fail); try go_wp2)
  go_ret
  exact ⟨eQ, dQ⟩

def spec_mvList.f (k : Nat) (l0 : List (S_impl_Peg)) : Option (List Int) := (spec_mvKind.f k l0).bind fun t478 => (if 1 < (t478.length : Int) then (if 2 < (t478.length : Int) then (some (([(rd_impl_Peg t478 1).f0, (rd_impl_Peg t478 2).f0, (rd_impl_Peg t478 2).f1] : List Int))) else (none)) else (none))
theorem spec_mvList.mono : ∀ a0 k, LeO (spec_mvList.f k a0) (spec_mvList.f (k + 1) a0) := by
 intro a0 k
 unfold spec_mvList.f
 repeat' first | (with_reducible exact spec_mvKind.mono _ _) | (with_reducible exact LeO.refl _) | (with_reducible exact LeO.none _) | (with_reducible refine LeO.ite ?_ ?_) | (with_reducible refine LeO.bind ?_ (fun _ => ?_)) | exact spec_mvKind.mono _ _ | exact LeO.none _ | refine LeO.ite ?_ ?_ | refine LeO.bind ?_ (fun _ => ?_)
def spec_mvList.T2 : Bool × List (List Nat × List Nat) := (true, [([], []), ([0], [0]), ([1], [1]), ([2], [2]), ([], []), ([4], [4]), ([5], [5]), ([6], [6]), ([], []), ([8], [8]), ([9], [9]), ([10], [10]), ([3, 7, 11], [3, 7, 11]), ([12, 0, 1, 2, 3, 4, 5, 6, 7, 8, 9, 10, 11, 12], [12])])
def spec_mvList.B2 : List Nat := [0, 1, 3, 7, 0, 16, 48, 112, 0, 256, 768, 1792, 4095, 8191]
theorem spec_mvList.tab2 : rtab .any (opsOf Try.f134 2) = spec_mvList.T2 := by kernel_rfl
theorem spec_mvList.bits2 : waitsOk spec_mvList.T2.2 spec_mvList.B2 = true := by kernel_rfl
set_option maxHeartbeats 8000000 in
set_option maxRecDepth 100000 in
theorem spec_mvList.calls (k : Nat) (A0 : Option Addr) (c0 : Nat) (l0 : List (S_impl_Peg)) (r : List Int) (w : World) (hr0 : Kd.C kd_impl_Peg w A0 l0.length l0) (hc0 : l0.length ≤ c0) (h : spec_mvList.f k l0 = some r) :
  Calls Try.prog 134 #[.slice A0 l0.length c0] w fun e w' => ∃ v0_ : Value, e = .returned (v0_) ∧ Kd.R (Kd.int .i64) 3 w' w.heap.size (fun _ => True) v0_ r ∧ Below w.heap.size w w' := by
 have HR0 := aM hr0; have HC0 := aM hc0; clear hr0 hc0; have HB := aM (Below.refl w.heap.size w)
 unfold spec_mvList.f at h; have H := h; clear h
 replace H := bS H; obtain ⟨t478, A2, H⟩ := H; replace H := iN H; obtain ⟨c3, H⟩ := H; have c3b0 := dE c3; have c3b1 : decide (1 < t478.length) = true := dE (by omega)
 clear c3; replace H := iN H; obtain ⟨c4, H⟩ := H; have c4b0 := dE c4; have c4b1 : decide (2 < t478.length) = true := dE (by omega)
 clear c4; obtain ⟨y484, hy484⟩ : ∃ y_ : List Int, y_ = (([(rd_impl_Peg t478 1).f0, (rd_impl_Peg t478 2).f0, (rd_impl_Peg t478 2).f1] : List Int)) := ⟨_, rfl⟩; rw [← hy484] at H; have Ny484 := aM hy484; clear hy484; obtain rfl := Option.some.inj H
 go_enter Try.func134, Try.ntmps134
 try go_wp2_with (first | ((with_reducible refine gC (f := 87) rfl ?_); refine goesL_ (some 5) rfl rfl Try.func87 kR rfl #[.slice A0 l0.length c0] rfl sQ ?_; (with_reducible refine (spec_mvKind.calls k (fun k_ => k_ < w.heap.size) _ _ l0 t478 _ ?side1 A2.out).mono ?_); (case side1 => exact Kd.V_mk HC0.out (Kd.F_below (Kd.C_F kd_impl_Peg_heap HR0.out) bQ)); rintro e w5 ⟨v479, rfl, ho0, hb⟩; refine ⟨_, rfl, ?_⟩; have HO480 := aM (Kd.V_lower (Kd.V_mono (ok' := fun k_ => True) ho0 (fun k_ hk_ => trivial)) (pZ bQ)); replace HB := tB HB hb; (try clear hb); (try clear hb2); (try clear hk); (try clear hi); (try clear ho0)))
 replace HO480 := aM (Kd.V_drew HO480.out); replace HB := aM (pD HB.out); obtain ⟨Ao7, co7, eo7⟩ := Kd.V_slice HO480.out
 (first | subst eo7 | (injection eo7 with f1_ f2_ f3_; have f4_ := f1_.symm; have f5_ := f3_.symm; clear f1_ f2_ f3_; subst f4_; subst f5_))
 have p481 : 0 ≤ (1 : Int) := (by omega)
 have q481 : 1 < (t478.length : Int) := dT aQ; obtain ⟨ad481, e481, hx481_0, hx481_1⟩ := at_impl_Peg (Kd.V_reads' HO480.out).2.2 1 p481 q481
 cases e481
 (try simp only [show (1 : Int).toNat = 1 from rfl, Nat.reduceMul, Nat.reduceEqDiff, Go.Addr.add, ↓reduceIte] at hx481_0)
 (try simp only [show (1 : Int).toNat = 1 from rfl, Nat.reduceMul, Nat.reduceEqDiff, Go.Addr.add, ↓reduceIte] at hx481_1)
 have qi481 : (1 < t478.length) = True := eq_true (by omega)
 (try rw [show ((1 : Int)).toNat = 1 from rfl] at hx481_0)
 (try rw [show 1 * 2 = 2 from rfl] at hx481_0)
 (try rw [show ((1 : Int)).toNat = 1 from rfl] at hx481_1)
 (try rw [show 1 * 2 = 2 from rfl] at hx481_1)
 replace p481 := eq_true p481; replace q481 := eq_true q481; have p482 : 0 ≤ (2 : Int) := (by omega)
 have q482 : 2 < (t478.length : Int) := dT aQ; obtain ⟨ad482, e482, hx482_0, hx482_1⟩ := at_impl_Peg (Kd.V_reads' HO480.out).2.2 2 p482 q482; obtain rfl : ad481 = ad482 := (by injection e482)
 (try simp only [show (2 : Int).toNat = 2 from rfl, Nat.reduceMul, Nat.reduceEqDiff, Go.Addr.add, ↓reduceIte] at hx482_0)
 (try simp only [show (2 : Int).toNat = 2 from rfl, Nat.reduceMul, Nat.reduceEqDiff, Go.Addr.add, ↓reduceIte] at hx482_1)
 have qi482 : (2 < t478.length) = True := eq_true (by omega)
 (try rw [show ((2 : Int)).toNat = 2 from rfl] at hx482_0)
 (try rw [show 2 * 2 = 4 from rfl] at hx482_0)
 (try rw [show ((2 : Int)).toNat = 2 from rfl] at hx482_1)
 (try rw [show 2 * 2 = 4 from rfl] at hx482_1)
 replace p482 := eq_true p482; replace q482 := eq_true q482; have p483 : 0 ≤ (2 : Int) := (by omega)
 have q483 : 2 < (t478.length : Int) := dT aQ; obtain ⟨ad483, e483, hx483_0, hx483_1⟩ := at_impl_Peg (Kd.V_reads' HO480.out).2.2 2 p483 q483; obtain rfl : ad481 = ad483 := (by injection e483)
 (try simp only [show (2 : Int).toNat = 2 from rfl, Nat.reduceMul, Nat.reduceEqDiff, Go.Addr.add, ↓reduceIte] at hx483_0)
 (try simp only [show (2 : Int).toNat = 2 from rfl, Nat.reduceMul, Nat.reduceEqDiff, Go.Addr.add, ↓reduceIte] at hx483_1)
 have qi483 : (2 < t478.length) = True := eq_true (by omega)
 (try rw [show ((2 : Int)).toNat = 2 from rfl] at hx483_0)
 (try rw [show 2 * 2 = 4 from rfl] at hx483_0)
 (try rw [show ((2 : Int)).toNat = 2 from rfl] at hx483_1)
 (try rw [show 2 * 2 = 4 from rfl] at hx483_1)
 replace p483 := eq_true p483; replace q483 := eq_true q483
 refine start_ (n := 14) (S := fun w' => w'.cell? ⟨ad481.block, ad481.off + 2, none⟩ = some (.int .i64 ((rd_impl_Peg t478 1).f0)) ∧ w'.cell? ⟨ad481.block, ad481.off + 2 + 1, none⟩ = some (.int .i64 ((rd_impl_Peg t478 1).f1)) ∧ w'.cell? ⟨ad481.block, ad481.off + 4, none⟩ = some (.int .i64 ((rd_impl_Peg t478 2).f0)) ∧ w'.cell? ⟨ad481.block, ad481.off + 4 + 1, none⟩ = some (.int .i64 ((rd_impl_Peg t478 2).f1)) ∧ w'.cell? ⟨ad481.block, ad481.off + 4, none⟩ = some (.int .i64 ((rd_impl_Peg t478 2).f0)) ∧ w'.cell? ⟨ad481.block, ad481.off + 4 + 1, none⟩ = some (.int .i64 ((rd_impl_Peg t478 2).f1))) (ds := []) (bA 14 0) kR rfl kR ⟨hx481_0, hx481_1, hx482_0, hx482_1, hx483_0, hx483_1⟩ (fun hHeld => ?_); refine with_tabW spec_mvList.tab2 spec_mvList.bits2 (fun HT_ HW_ => ?_)
 generalize w5.drew = w6 at HO480 HB hx481_0 hx481_1 hx482_0 hx482_1 hx483_0 hx483_1 hHeld ⊢
 refine pU 0 6 (bA 14 1) HT_ ?_; refine pU 1 7 (bA 14 3) HT_ ?_; refine pU 2 8 (bA 14 7) HT_ ?_; refine pU 4 10 (bA 14 23) HT_ ?_; refine pU 5 11 (bA 14 55) HT_ ?_; refine pU 6 12 (bA 14 119) HT_ ?_; refine pU 8 14 (bA 14 375) HT_ ?_; refine pU 9 15 (bA 14 887) HT_ ?_; refine pU 10 16 (bA 14 1911) HT_ ?_
 refine tU 3 9 (bA 14 1919) HT_ HW_ hHeld ?_ (hy := Or.inl ⟨by rfl, by rintro w' ⟨s0, s1, s2, s3, s4, s5⟩; go_simp; with_reducible rfl⟩)
 refine tU 7 13 (bA 14 2047) HT_ HW_ hHeld ?_ (hy := Or.inl ⟨by rfl, by rintro w' ⟨s0, s1, s2, s3, s4, s5⟩; go_simp; with_reducible rfl⟩)
 refine tU 11 17 (bA 14 4095) HT_ HW_ hHeld ?_ (hy := Or.inl ⟨by rfl, by rintro w' ⟨s0, s1, s2, s3, s4, s5⟩; go_simp; with_reducible rfl⟩)
 refine oU 12 18 (bA 14 8191) HT_ (fun K hK => ?_)
 refine Kd.R_lit_step (Kd.int .i64) _ 3 ?hg (N := 18) ?hd (xs := ([(rd_impl_Peg t478 1).f0, (rd_impl_Peg t478 2).f0, (rd_impl_Peg t478 2).f1] : List Int)) (inner := [.int .i64 ((rd_impl_Peg t478 1).f0), .int .i64 ((rd_impl_Peg t478 2).f0), .int .i64 ((rd_impl_Peg t478 2).f1)]) (ok := fun _ => True) (okp := fun _ => True) ?hr ?hp (fun _ hk => hk) trivial (Below.refl _ _) (Nat.le_refl _) (by simp) ?_; (case hd => rfl); (case hg => rfl); (case hr => first | (go_simp; done) | (go_simp; rfl)); (case hp => exact (Reps.one (show Kd.M (Kd.int .i64) _ _ _ ((rd_impl_Peg t478 1).f0) [.int .i64 ((rd_impl_Peg t478 1).f0)] from rfl) (Reps.one (show Kd.M (Kd.int .i64) _ _ _ ((rd_impl_Peg t478 2).f0) [.int .i64 ((rd_impl_Peg t478 2).f0)] from rfl) (Reps.one (show Kd.M (Kd.int .i64) _ _ _ ((rd_impl_Peg t478 2).f1) [.int .i64 ((rd_impl_Peg t478 2).f1)] from rfl) (Reps.none _ _)))))
 intro v485 w8 ho9 hb hg_ hnew_
 have HS0_ := (hb.cell (wB _ _ (hHeld.1))).trans (hHeld.1); have HS1_ := (hb.cell (wB _ _ (hHeld.2.1))).trans (hHeld.2.1); have HS2_ := (hb.cell (wB _ _ (hHeld.2.2.1))).trans (hHeld.2.2.1); have HS3_ := (hb.cell (wB _ _ (hHeld.2.2.2.1))).trans (hHeld.2.2.2.1); have HS4_ := (hb.cell (wB _ _ (hHeld.2.2.2.2.1))).trans (hHeld.2.2.2.2.1); have HS5_ := (hb.cell (wB _ _ (hHeld.2.2.2.2.2))).trans (hHeld.2.2.2.2.2); clear hg_ hnew_
 (first | rw [← Ny484.out] at ho9 | (simp only [Int.reduceToNat] at ho9; rw [← Ny484.out] at ho9))
 have HO486 := aM (Kd.R_lower ho9 (pZ bQ)); replace HO480 := aM (Kd.V_elder' (by (with_reducible repeat (first | apply Kd.V_alloc | apply Kd.V_drewN | apply Kd.V_drew)); exact HO480.out) (Kd.R_base ho9) hb); replace HB := tB HB hb
 clear hb ho9
 refine hK.out _ _ ⟨HS0_, HS1_, HS2_, HS3_, HS4_, HS5_⟩ (fun hHeld => ?_)
 clear hK K
 refine nU ?_
 refine pU 13 2 (bA 14 16383) HT_ ?_
 refine done_ (done_of HT_.out kR) ?_
 try go_wp2
 go_ret
 exact ⟨_, by first | rfl | (simp [errW_none, errW_some] <;> rfl) | (simp [*, errW_none, errW_some] <;> rfl), by (with_reducible repeat (first | apply rA | apply rN | apply rD)); exact HO486.out, bQ⟩
def spec_mvMade.f (a0 : Int) (a1 : Int) (a2 : Int) : Option ((List (S_impl_Peg))) := some (([(⟨0, 0⟩ : S_impl_Peg), (⟨a0, 0⟩ : S_impl_Peg), (⟨a1, a2⟩ : S_impl_Peg)] : List (S_impl_Peg)))
set_option maxHeartbeats 8000000 in
set_option maxRecDepth 100000 in
theorem spec_mvMade.calls (a0 : Int) (a1 : Int) (a2 : Int) (r : List (S_impl_Peg)) (w : World) (h : spec_mvMade.f a0 a1 a2 = some r) :
  Calls Try.prog 135 #[.int .i64 a0, .int .i64 a1, .int .i64 a2] w fun e w' => ∃ v0_ : Value, e = .returned (v0_) ∧ Kd.R kd_impl_Peg 50 w' w.heap.size (fun _ => True) v0_ r ∧ Below w.heap.size w w' := by
 have hu50 := Try.underlying50; have HB := aM (Below.refl w.heap.size w)
 unfold spec_mvMade.f at h; have H := h; clear h
 obtain ⟨y487, hy487⟩ : ∃ y_ : List (S_impl_Peg), y_ = (([(⟨0, 0⟩ : S_impl_Peg), (⟨a0, 0⟩ : S_impl_Peg), (⟨a1, a2⟩ : S_impl_Peg)] : List (S_impl_Peg))) := ⟨_, rfl⟩; rw [← hy487] at H; have Ny487 := aM hy487; clear hy487; obtain rfl := Option.some.inj H
 go_enter Try.func135, Try.ntmps135
 go_wp2_with (first | ((with_reducible refine gate_dst (N := 13) rfl ?_); refine Kd.R_lit kd_impl_Peg _ 50 ?hg (N := 13) ?hd (xs := ([(⟨0, 0⟩ : S_impl_Peg), (⟨a0, 0⟩ : S_impl_Peg), (⟨a1, a2⟩ : S_impl_Peg)] : List (S_impl_Peg))) (inner := [.int .i64 0, .int .i64 0, .int .i64 a0, .int .i64 0, .int .i64 a1, .int .i64 a2]) (ok := fun _ => True) (okp := fun _ => True) ?hr ?hp (fun _ hk => hk) trivial (Below.refl _ _) (Nat.le_refl _) (by simp) ?_; (case hd => rfl); (case hg => rfl); (case hr => first | (go_simp; done) | (go_simp; rfl)); (case hp => exact (Reps.c2 (show Kd.M kd_impl_Peg _ _ _ (⟨0, 0⟩ : S_impl_Peg) [.int .i64 0, .int .i64 0] from (kd_impl_Peg_mkM _ _ _ (⟨0, 0⟩ : S_impl_Peg) )) (Reps.c2 (show Kd.M kd_impl_Peg _ _ _ (⟨a0, 0⟩ : S_impl_Peg) [.int .i64 a0, .int .i64 0] from (kd_impl_Peg_mkM _ _ _ (⟨a0, 0⟩ : S_impl_Peg) )) (Reps.c2 (show Kd.M kd_impl_Peg _ _ _ (⟨a1, a2⟩ : S_impl_Peg) [.int .i64 a1, .int .i64 a2] from (kd_impl_Peg_mkM _ _ _ (⟨a1, a2⟩ : S_impl_Peg) )) (Reps.none _ _))))); intro v488 w4 ho5 hb hg_ hnew_; clear hg_ hnew_; (first | rw [← Ny487.out] at ho5 | (simp only [Int.reduceToNat] at ho5; rw [← Ny487.out] at ho5)); have HO489 := aM (Kd.R_lower ho5 (pZ bQ)); replace HB := tB HB hb; clear hb ho5))
 go_ret
 exact ⟨_, by first | rfl | (simp [errW_none, errW_some] <;> rfl) | (simp [*, errW_none, errW_some] <;> rfl), by (with_reducible repeat (first | apply rA | apply rN | apply rD)); exact HO489.out, bQ⟩

mutual
def spec_mvKinds.l0 : Nat → Int → List (List Int) → Int → Option ((List (List Int)))
 | 0, _, _, _ => none
 | k + 1, x0, x3, x4 => if x4 ≤ x0 then (if x4 = 0 then (none) else (if (Int.tmod x0 x4) = 0 then (spec_mvKinds.l1 k x0 x3 x4 (wrap64 (Int.tdiv x0 x4)) 0) else (spec_mvKinds.l0 k x0 x3 (wrap64 (x4 + 1))))) else (some x3)
def spec_mvKinds.l1 : Nat → Int → List (List Int) → Int → Int → Int → Option ((List (List Int)))
 | 0, _, _, _, _, _ => none
 | k + 1, x0, x3, x4, x5, x6 => if x6 < x5 then ((spec_mvMade.f x4 x6 x5).bind fun t490 => ((spec_mvList.f k t490).bind fun t493 => ((spec_l1Same.f k t493 (([x4, x6, x5] : List Int))).bind fun t499 => (if t499 = true then (if x3.length < 5864062014805 then (spec_mvKinds.l1 k x0 (x3 ++ [(([x4, x6, x5] : List Int))]) x4 x5 (wrap64 (x6 + 1))) else (none)) else (spec_mvKinds.l1 k x0 x3 x4 x5 (wrap64 (x6 + 1))))))) else (spec_mvKinds.l0 k x0 x3 (wrap64 (x4 + 1)))
end
def spec_mvKinds.f (k : Nat) (a0 : Int) : Option ((List (List Int))) := spec_mvKinds.l0 k a0 ([] : List (List Int)) 1
theorem spec_mvKinds.mono_l : ∀ k, (∀ y0 y1 y2, LeO (spec_mvKinds.l0 k y0 y1 y2) (spec_mvKinds.l0 (k + 1) y0 y1 y2)) ∧ (∀ y0 y1 y2 y3 y4, LeO (spec_mvKinds.l1 k y0 y1 y2 y3 y4) (spec_mvKinds.l1 (k + 1) y0 y1 y2 y3 y4))
 | 0 => ⟨fun _ _ _ r h => by simp [spec_mvKinds.l0] at h, fun _ _ _ _ _ r h => by simp [spec_mvKinds.l1] at h⟩
 | k + 1 => by
  obtain ⟨ih0, ih1⟩ := spec_mvKinds.mono_l k
  refine ⟨?_, ?_⟩ <;> intros <;> (first | unfold spec_mvKinds.l0 | unfold spec_mvKinds.l1) <;> repeat' first | (with_reducible exact ih0 _ _ _) | (with_reducible exact ih1 _ _ _ _ _) | (with_reducible exact spec_l1Same.mono _ _ _) | (with_reducible exact spec_mvList.mono _ _) | (with_reducible exact LeO.refl _) | (with_reducible exact LeO.none _) | (with_reducible refine LeO.ite ?_ ?_) | (with_reducible refine LeO.bind ?_ (fun _ => ?_)) | exact ih0 _ _ _ | exact ih1 _ _ _ _ _ | exact spec_l1Same.mono _ _ _ | exact spec_mvList.mono _ _ | exact LeO.none _ | refine LeO.ite ?_ ?_ | refine LeO.bind ?_ (fun _ => ?_)
theorem spec_mvKinds.mono : ∀ a0 k, LeO (spec_mvKinds.f k a0) (spec_mvKinds.f (k + 1) a0) := by
 intro a0 k
 obtain ⟨ih0, ih1⟩ := spec_mvKinds.mono_l k
 unfold spec_mvKinds.f
 repeat' first | (with_reducible exact ih0 _ _ _) | (with_reducible exact ih1 _ _ _ _ _) | (with_reducible exact spec_l1Same.mono _ _ _) | (with_reducible exact spec_mvList.mono _ _) | (with_reducible exact LeO.refl _) | (with_reducible exact LeO.none _) | (with_reducible refine LeO.ite ?_ ?_) | (with_reducible refine LeO.bind ?_ (fun _ => ?_)) | exact ih0 _ _ _ | exact ih1 _ _ _ _ _ | exact spec_l1Same.mono _ _ _ | exact spec_mvList.mono _ _ | exact LeO.none _ | refine LeO.ite ?_ ?_ | refine LeO.bind ?_ (fun _ => ?_)
set_option maxHeartbeats 8000000 in
set_option maxRecDepth 100000 in
theorem spec_mvKinds.calls (k : Nat) (a0 : Int) (r : List (List Int)) (w : World) (h : spec_mvKinds.f k a0 = some r) :
  Calls Try.prog 93 #[.int .i64 a0] w fun e w' => ∃ v0_ : Value, e = .returned (v0_) ∧ Kd.S (Kd.slice 3 (Kd.int .i64)) 77 w' w.heap.size (fun _ => True) v0_ r ∧ Below w.heap.size w w' := by
 have HB := aM (Below.refl w.heap.size w)
 unfold spec_mvKinds.f at h; have H := h; clear h
 have H' := aM H; clear H
 go_enter Try.func93, Try.ntmps93
 go_wp2
 go_loopg [3, 4] k (fun kq v3 v4 w' => ∃ (x3_1 : List (List Int)) (x4_1 : Int), v4 = .int .i64 x4_1 ∧ Aside0 (spec_mvKinds.l0 kq a0 x3_1 x4_1 = some r) ∧ Aside0 (kq ≤ k) ∧ Aside0 (Kd.S (Kd.slice 3 (Kd.int .i64)) 77 w' w.heap.size (fun _ => True) v3 x3_1) ∧ Aside0 (Below w.heap.size w w'))
 case atStart => exact ⟨(([] : List (List Int))), (1), eQ, H', ⟨Nat.le_refl _⟩, ⟨by first | exact Kd.S_nil _ _ _ _ _ | exact Kd.N_nil _ _ _ _ _ | exact Kd.V_nil _ _ _ _ _ | exact Kd.Q_nil _ _ _ _ _ | exact Kd.R_nil _ _ _ _ _⟩, ⟨bQ⟩⟩
 case round =>
  clear H'; obtain ⟨x3_1, x4_1, rfl, HA, HK1, HO_3, HB⟩ := hrel
  cases gk with
  | zero => exact absurd HA.out (by simp [spec_mvKinds.l0])
  | succ k1 =>
   have H := HA.out; clear HA
   simp only [spec_mvKinds.l0] at H
   by_cases c2 : x4_1 ≤ a0
   ·rw [if_pos c2] at H; have c2b0 := dE c2; clear c2; replace H := iM H; obtain ⟨c3, H⟩ := H; have c3b0 : (x4_1 == 0) = false := beq_eq_false_iff_ne.mpr c3; have c3b1 : (x4_1 != 0) = true := bne_iff_ne.mpr c3
    by_cases c4 : (Int.tmod a0 x4_1) = 0
    ·rw [if_pos c4] at H; have c4b0 : ((Int.tmod a0 x4_1) == 0) = true := beq_iff_eq.mpr c4; have c4b1 : ((Int.tmod a0 x4_1) != 0) = false := bne_eq_false_iff_eq.mpr c4; clear c4; have H' := aM H; clear H; go_wp2
     go_loopg [3, 6] k1 (fun kq v3 v6 w' => ∃ (x3_2 : List (List Int)) (x6_2 : Int), v6 = .int .i64 x6_2 ∧ Aside0 (spec_mvKinds.l1 kq a0 x3_2 x4_1 (wrap64 (Int.tdiv a0 x4_1)) x6_2 = some r) ∧ Aside0 (kq ≤ k1) ∧ Aside0 (Kd.S (Kd.slice 3 (Kd.int .i64)) 77 w' w.heap.size (fun _ => True) v3 x3_2) ∧ Aside0 (Below w.heap.size w w'))
     case atStart => exact ⟨(x3_1), (0), eQ, H', ⟨Nat.le_refl _⟩, ⟨by (with_reducible repeat (first | apply Kd.S_alloc | apply Kd.S_drewN | apply Kd.S_drew)); exact HO_3.out⟩, ⟨bQ⟩⟩
     case round =>
      clear H'; (try clear c2); (try clear c2b0); (try clear c3); (try clear c3b0); (try clear c3b1); (try clear c4); (try clear c4b0); (try clear c4b1); obtain ⟨x3_2, x6_2, rfl, HA, HK2, HO_3, HB⟩ := hrel
      cases gk with
      | zero => exact absurd HA.out (by simp [spec_mvKinds.l1])
      | succ k2 =>
       have H := HA.out; clear HA
       simp only [spec_mvKinds.l1] at H
       by_cases c5 : x6_2 < (wrap64 (Int.tdiv a0 x4_1))
       ·rw [if_pos c5] at H; have c5b0 := dE c5; clear c5; replace H := bS H; obtain ⟨t490, A6, H⟩ := H; replace H := bS H; obtain ⟨t493, A7, H⟩ := H; obtain ⟨y496, hy496⟩ : ∃ y_ : List Int, y_ = (([x4_1, x6_2, (wrap64 (Int.tdiv a0 x4_1))] : List Int)) := ⟨_, rfl⟩; rw [← hy496] at H; have Ny496 := aM hy496; clear hy496; replace H := bS H; obtain ⟨t499, A8, H⟩ := H
        by_cases c9 : t499 = true
        ·subst c9; replace H := iT H; obtain ⟨y500, hy500⟩ : ∃ y_ : List Int, y_ = (([x4_1, x6_2, (wrap64 (Int.tdiv a0 x4_1))] : List Int)) := ⟨_, rfl⟩; (first | rw [← hy500] at H | rw [Ny496.out.trans hy500.symm] at H); have Ny500 := aM hy500; clear hy500; replace H := iN H; obtain ⟨c10, H⟩ := H; have LMc10 := aM c10; clear c10; obtain ⟨y503, hy503⟩ : ∃ y_ : List (List Int), y_ = (x3_2 ++ [y500]) := ⟨_, rfl⟩; rw [← hy503] at H; have Ny503 := aM hy503; clear hy503; have H' := aM H; clear H
         go_wp2_with (first | ((with_reducible refine gC (f := 135) rfl ?_); refine goesL_ (some 27) rfl rfl Try.func135 kR rfl #[.int .i64 x4_1, .int .i64 x6_2, .int .i64 (wrap64 (Int.tdiv a0 x4_1))] rfl sQ ?_; (with_reducible refine (spec_mvMade.calls x4_1 x6_2 (wrap64 (Int.tdiv a0 x4_1)) t490 _ A6.out).mono ?_); rintro e w11 ⟨v491, rfl, ho0, hb⟩; refine ⟨_, rfl, ?_⟩; have HO492 := aM (Kd.R_lower ho0 (pZ bQ)); replace HO_3 := aM (Kd.S_below (by (with_reducible repeat (first | apply Kd.S_alloc | apply Kd.S_drewN | apply Kd.S_drew)); exact HO_3.out) hb); replace HB := tB HB hb; (try clear hb); (try clear hb2); (try clear hk); (try clear hi); (try clear ho0); obtain ⟨Ao12, co12, eo12⟩ := Kd.R_slice HO492.out; subst eo12) | ((with_reducible refine gC (f := 134) rfl ?_); refine goesL_ (some 28) rfl rfl Try.func134 kR rfl #[.slice Ao12 t490.length co12] rfl sQ ?_; (with_reducible refine (spec_mvList.calls k2 _ _ t490 t493 _ ?side1 ?side2 A7.out).mono ?_); (case side1 => repeat (first | exact (rR HO492.out).2.2 | (with_reducible refine cA ?_ _) | (with_reducible refine cN ?_ _) | (with_reducible refine cD ?_))); (case side2 => exact (rR HO492.out).2.1); rintro e w13 ⟨v494, rfl, ho0, hb⟩; refine ⟨_, rfl, ?_⟩; have HO495 := aM (Kd.R_lower ho0 (pZ bQ)); replace HO_3 := aM (Kd.S_elder' (by (with_reducible repeat (first | apply Kd.S_alloc | apply Kd.S_drewN | apply Kd.S_drew)); exact HO_3.out) (Kd.R_base ho0) hb); replace HO492 := aM (Kd.R_below (by (with_reducible repeat (first | apply rA | apply rN | apply rD)); exact HO492.out) hb); replace HB := tB HB hb; (try clear hb); (try clear hb2); (try clear hk); (try clear hi); (try clear ho0)) | ((with_reducible refine gate_dst (N := 32) rfl ?_); refine Kd.R_lit (Kd.int .i64) _ 3 ?hg (N := 32) ?hd (xs := ([x4_1, x6_2, (wrap64 (Int.tdiv a0 x4_1))] : List Int)) (inner := [.int .i64 x4_1, .int .i64 x6_2, .int .i64 (wrap64 (Int.tdiv a0 x4_1))]) (ok := fun _ => True) (okp := fun _ => True) ?hr ?hp (fun _ hk => hk) trivial (Below.refl _ _) (Nat.le_refl _) (by simp) ?_; (case hd => rfl); (case hg => rfl); (case hr => first | (go_simp; done) | (go_simp; rfl)); (case hp => exact (Reps.one (show Kd.M (Kd.int .i64) _ _ _ x4_1 [.int .i64 x4_1] from rfl) (Reps.one (show Kd.M (Kd.int .i64) _ _ _ x6_2 [.int .i64 x6_2] from rfl) (Reps.one (show Kd.M (Kd.int .i64) _ _ _ (wrap64 (Int.tdiv a0 x4_1)) [.int .i64 (wrap64 (Int.tdiv a0 x4_1))] from rfl) (Reps.none _ _))))); intro v497 w14 ho15 hb hg_ hnew_; clear hg_ hnew_; (first | rw [← Ny496.out] at ho15 | (simp only [Int.reduceToNat] at ho15; rw [← Ny496.out] at ho15)); have HO498 := aM (Kd.R_lower (Kd.R_new' ho15 (Kd.R_lt (by (with_reducible repeat (first | apply rA | apply rN | apply rD)); exact HO495.out))) (pZ bQ)); replace HO_3 := aM (Kd.S_elder' (by (with_reducible repeat (first | apply Kd.S_alloc | apply Kd.S_drewN | apply Kd.S_drew)); exact HO_3.out) (Kd.R_base ho15) hb); replace HO492 := aM (Kd.R_below (by (with_reducible repeat (first | apply rA | apply rN | apply rD)); exact HO492.out) hb); replace HO495 := aM (Kd.R_elder' (by (with_reducible repeat (first | apply rA | apply rN | apply rD)); exact HO495.out) (Kd.R_base ho15) hb); replace HB := tB HB hb; clear hb ho15; obtain ⟨Ao16, co16, eo16⟩ := Kd.R_slice HO495.out; subst eo16; obtain ⟨Ao17, co17, eo17⟩ := Kd.R_slice HO498.out; subst eo17) | ((with_reducible refine gC (f := 133) rfl ?_); refine goesL_ (some 33) rfl rfl Try.func133 kR rfl #[.slice Ao16 t493.length co16, .slice Ao17 y496.length co17] rfl sQ ?_; (with_reducible refine (spec_l1Same.calls k2 _ _ t493 _ _ y496 true _ ?side1 ?side2 ?side3 ?side4 A8.out).mono ?_); (case side1 => repeat (first | exact (rR HO495.out).2.2 | (with_reducible refine cA ?_ _) | (with_reducible refine cN ?_ _) | (with_reducible refine cD ?_))); (case side2 => exact (rR HO495.out).2.1); (case side3 => repeat (first | exact (rR HO498.out).2.2 | (with_reducible refine cA ?_ _) | (with_reducible refine cN ?_ _) | (with_reducible refine cD ?_))); (case side4 => exact (rR HO498.out).2.1); rintro e w' ⟨rfl, ⟨nd, rfl⟩⟩; refine ⟨_, rfl, ?_⟩) | ((with_reducible refine gate_dst (N := 38) rfl ?_); refine Kd.R_lit (Kd.int .i64) _ 3 ?hg (N := 38) ?hd (xs := ([x4_1, x6_2, (wrap64 (Int.tdiv a0 x4_1))] : List Int)) (inner := [.int .i64 x4_1, .int .i64 x6_2, .int .i64 (wrap64 (Int.tdiv a0 x4_1))]) (ok := fun _ => True) (okp := fun _ => True) ?hr ?hp (fun _ hk => hk) trivial (Below.refl _ _) (Nat.le_refl _) (by simp) ?_; (case hd => rfl); (case hg => rfl); (case hr => first | (go_simp; done) | (go_simp; rfl)); (case hp => exact (Reps.one (show Kd.M (Kd.int .i64) _ _ _ x4_1 [.int .i64 x4_1] from rfl) (Reps.one (show Kd.M (Kd.int .i64) _ _ _ x6_2 [.int .i64 x6_2] from rfl) (Reps.one (show Kd.M (Kd.int .i64) _ _ _ (wrap64 (Int.tdiv a0 x4_1)) [.int .i64 (wrap64 (Int.tdiv a0 x4_1))] from rfl) (Reps.none _ _))))); intro v501 w18 ho19 hb hg_ hnew_; clear hg_ hnew_; (first | rw [← Ny500.out] at ho19 | (simp only [Int.reduceToNat] at ho19; rw [← Ny500.out] at ho19)); have HO502 := aM (Kd.R_lower (Kd.R_new' (Kd.R_new' ho19 (Kd.R_lt (by (with_reducible repeat (first | apply rA | apply rN | apply rD)); exact HO495.out))) (Kd.R_lt (by (with_reducible repeat (first | apply rA | apply rN | apply rD)); exact HO498.out))) (pZ bQ)); replace HO_3 := aM (Kd.S_elder' (by (with_reducible repeat (first | apply Kd.S_alloc | apply Kd.S_drewN | apply Kd.S_drew)); exact HO_3.out) (Kd.R_base ho19) hb); replace HO492 := aM (Kd.R_below (by (with_reducible repeat (first | apply rA | apply rN | apply rD)); exact HO492.out) hb); replace HO495 := aM (Kd.R_elder' (by (with_reducible repeat (first | apply rA | apply rN | apply rD)); exact HO495.out) (Kd.R_base ho19) hb); replace HO498 := aM (Kd.R_elder' (by (with_reducible repeat (first | apply rA | apply rN | apply rD)); exact HO498.out) (Kd.R_base ho19) hb); replace HB := tB HB hb; clear hb ho19; obtain ⟨Ao21, co21, eo21⟩ := Kd.R_slice HO502.out; subst eo21) | ((with_reducible refine gate_builtin (b := .append) (xs := #[.tmp 34, .tmp 39]) rfl ?_); at_builtin; refine Kd.S_append (Kd.slice 3 (Kd.int .i64)) (w0 := w) w.heap.size rfl (.tmp 34) (.tmp 39) 39 77 (.slice none 0 0) 24 rfl Try.underlying39 info77 rfl (by decide) (by omega) u3 x3_2 y500 [.slice Ao21 y500.length co21] (fun k_ => some k_ ≠ (.slice Ao16 t493.length co16 : Value).ownBlock ∧ some k_ ≠ (.slice Ao17 y496.length co17 : Value).ownBlock) (fun k_ => some k_ = (.slice Ao21 y500.length co21 : Value).ownBlock) rfl rfl ?aP (fun k_ hk_ => ((Kd.R_mono (ok' := fun k_ => ((fun k_ => some k_ ≠ (.slice Ao16 t493.length co16 : Value).ownBlock ∧ some k_ ≠ (.slice Ao17 y496.length co17 : Value).ownBlock)) k_ ∧ some k_ ≠ (u3 : Value).ownBlock) (Kd.R_apart' (HO502.out) (Kd.S_typed HO_3.out) (by decide)) (fun k_ hk => ⟨⟨hk.1.1.2, hk.1.2⟩, hk.2⟩))).1 k_ hk_.symm) ?aF ?aO ?aB ?aS ?aL ?_; (case aP => exact Kd.M_row (Kd.R_mono (Kd.R_tight rfl (Kd.R_mono (ok' := fun k_ => ((fun k_ => some k_ ≠ (.slice Ao16 t493.length co16 : Value).ownBlock ∧ some k_ ≠ (.slice Ao17 y496.length co17 : Value).ownBlock)) k_ ∧ some k_ ≠ (u3 : Value).ownBlock) (Kd.R_apart' (HO502.out) (Kd.S_typed HO_3.out) (by decide)) (fun k_ hk => ⟨⟨hk.1.1.2, hk.1.2⟩, hk.2⟩))) (fun _ h_ => h_))); (case aB => exact bQ); (case aF => exact (fun k_ hk => ⟨Kd.fresh' (Kd.R_lt (by (with_reducible repeat (first | apply rA | apply rN | apply rD)); exact HO495.out)) k_ hk, Kd.fresh' (Kd.R_lt (by (with_reducible repeat (first | apply rA | apply rN | apply rD)); exact HO498.out)) k_ hk⟩)); (case aO => exact (by (with_reducible repeat (first | apply Kd.S_alloc | apply Kd.S_drewN | apply Kd.S_drew)); exact Kd.S_mono HO_3.out (fun k_ hk => ⟨⟨hk.1.1.2, hk.1.2⟩, fun e_ => hk.2 e_⟩))); (case aS => exact (pZ bQ)); (case aL => have := LMc10.out; omega); intro v504 w20 ho hb hg hat; rw [← Ny503.out] at ho; have n0_ := aM (Kd.R_over' (by (with_reducible repeat (first | apply rA | apply rN | apply rD)); exact HO492.out) (Kd.S_typed (by (with_reducible repeat (first | apply Kd.S_alloc | apply Kd.S_drewN | apply Kd.S_drew)); exact HO_3.out)) (by decide) hg); have n1_ := aM (Kd.R_over' (by (with_reducible repeat (first | apply rA | apply rN | apply rD)); exact HO495.out) (Kd.S_typed (by (with_reducible repeat (first | apply Kd.S_alloc | apply Kd.S_drewN | apply Kd.S_drew)); exact HO_3.out)) (by decide) hg); have n2_ := aM (Kd.R_over' (by (with_reducible repeat (first | apply rA | apply rN | apply rD)); exact HO498.out) (Kd.S_typed (by (with_reducible repeat (first | apply Kd.S_alloc | apply Kd.S_drewN | apply Kd.S_drew)); exact HO_3.out)) (by decide) hg); have n3_ := aM (hb); have n4_ := aM (ho); clear HO492; clear HO495; clear HO498; clear HB; clear HO_3; clear HO502; have HO492 := n0_; have HO495 := n1_; have HO498 := n2_; have HB := n3_; have HO505 := n4_; clear n0_ n1_ n2_ n3_ n4_; clear ho hb hg hat))
         go_roundg k2
         case measure => have := HK1.out; have := HK2.out; omega
         case rel => exact ⟨(y503), (wrap64 (x6_2 + 1)), eQ, H', ⟨by have := HK1.out; have := HK2.out; omega⟩, ⟨by (with_reducible repeat (first | apply Kd.S_alloc | apply Kd.S_drewN | apply Kd.S_drew)); exact Kd.S_mono HO505.out (fun _ hk => trivial)⟩, ⟨bQ⟩⟩
        ·replace c9 := Bool.eq_false_iff.mpr c9; subst c9; replace H := iF H; have H' := aM H; clear H
         go_wp2_with (first | ((with_reducible refine gC (f := 135) rfl ?_); refine goesL_ (some 27) rfl rfl Try.func135 kR rfl #[.int .i64 x4_1, .int .i64 x6_2, .int .i64 (wrap64 (Int.tdiv a0 x4_1))] rfl sQ ?_; (with_reducible refine (spec_mvMade.calls x4_1 x6_2 (wrap64 (Int.tdiv a0 x4_1)) t490 _ A6.out).mono ?_); rintro e w22 ⟨v491, rfl, ho0, hb⟩; refine ⟨_, rfl, ?_⟩; have HO492 := aM (Kd.R_lower ho0 (pZ bQ)); replace HO_3 := aM (Kd.S_below (by (with_reducible repeat (first | apply Kd.S_alloc | apply Kd.S_drewN | apply Kd.S_drew)); exact HO_3.out) hb); replace HB := tB HB hb; (try clear hb); (try clear hb2); (try clear hk); (try clear hi); (try clear ho0); obtain ⟨Ao23, co23, eo23⟩ := Kd.R_slice HO492.out; subst eo23) | ((with_reducible refine gC (f := 134) rfl ?_); refine goesL_ (some 28) rfl rfl Try.func134 kR rfl #[.slice Ao23 t490.length co23] rfl sQ ?_; (with_reducible refine (spec_mvList.calls k2 _ _ t490 t493 _ ?side1 ?side2 A7.out).mono ?_); (case side1 => repeat (first | exact (rR HO492.out).2.2 | (with_reducible refine cA ?_ _) | (with_reducible refine cN ?_ _) | (with_reducible refine cD ?_))); (case side2 => exact (rR HO492.out).2.1); rintro e w24 ⟨v494, rfl, ho0, hb⟩; refine ⟨_, rfl, ?_⟩; have HO495 := aM (Kd.R_lower ho0 (pZ bQ)); replace HO_3 := aM (Kd.S_elder' (by (with_reducible repeat (first | apply Kd.S_alloc | apply Kd.S_drewN | apply Kd.S_drew)); exact HO_3.out) (Kd.R_base ho0) hb); replace HO492 := aM (Kd.R_below (by (with_reducible repeat (first | apply rA | apply rN | apply rD)); exact HO492.out) hb); replace HB := tB HB hb; (try clear hb); (try clear hb2); (try clear hk); (try clear hi); (try clear ho0)) | ((with_reducible refine gate_dst (N := 32) rfl ?_); refine Kd.R_lit (Kd.int .i64) _ 3 ?hg (N := 32) ?hd (xs := ([x4_1, x6_2, (wrap64 (Int.tdiv a0 x4_1))] : List Int)) (inner := [.int .i64 x4_1, .int .i64 x6_2, .int .i64 (wrap64 (Int.tdiv a0 x4_1))]) (ok := fun _ => True) (okp := fun _ => True) ?hr ?hp (fun _ hk => hk) trivial (Below.refl _ _) (Nat.le_refl _) (by simp) ?_; (case hd => rfl); (case hg => rfl); (case hr => first | (go_simp; done) | (go_simp; rfl)); (case hp => exact (Reps.one (show Kd.M (Kd.int .i64) _ _ _ x4_1 [.int .i64 x4_1] from rfl) (Reps.one (show Kd.M (Kd.int .i64) _ _ _ x6_2 [.int .i64 x6_2] from rfl) (Reps.one (show Kd.M (Kd.int .i64) _ _ _ (wrap64 (Int.tdiv a0 x4_1)) [.int .i64 (wrap64 (Int.tdiv a0 x4_1))] from rfl) (Reps.none _ _))))); intro v497 w25 ho26 hb hg_ hnew_; clear hg_ hnew_; (first | rw [← Ny496.out] at ho26 | (simp only [Int.reduceToNat] at ho26; rw [← Ny496.out] at ho26)); have HO498 := aM (Kd.R_lower (Kd.R_new' ho26 (Kd.R_lt (by (with_reducible repeat (first | apply rA | apply rN | apply rD)); exact HO495.out))) (pZ bQ)); replace HO_3 := aM (Kd.S_elder' (by (with_reducible repeat (first | apply Kd.S_alloc | apply Kd.S_drewN | apply Kd.S_drew)); exact HO_3.out) (Kd.R_base ho26) hb); replace HO492 := aM (Kd.R_below (by (with_reducible repeat (first | apply rA | apply rN | apply rD)); exact HO492.out) hb); replace HO495 := aM (Kd.R_elder' (by (with_reducible repeat (first | apply rA | apply rN | apply rD)); exact HO495.out) (Kd.R_base ho26) hb); replace HB := tB HB hb; clear hb ho26; obtain ⟨Ao27, co27, eo27⟩ := Kd.R_slice HO495.out; subst eo27; obtain ⟨Ao28, co28, eo28⟩ := Kd.R_slice HO498.out; subst eo28) | ((with_reducible refine gC (f := 133) rfl ?_); refine goesL_ (some 33) rfl rfl Try.func133 kR rfl #[.slice Ao27 t493.length co27, .slice Ao28 y496.length co28] rfl sQ ?_; (with_reducible refine (spec_l1Same.calls k2 _ _ t493 _ _ y496 false _ ?side1 ?side2 ?side3 ?side4 A8.out).mono ?_); (case side1 => repeat (first | exact (rR HO495.out).2.2 | (with_reducible refine cA ?_ _) | (with_reducible refine cN ?_ _) | (with_reducible refine cD ?_))); (case side2 => exact (rR HO495.out).2.1); (case side3 => repeat (first | exact (rR HO498.out).2.2 | (with_reducible refine cA ?_ _) | (with_reducible refine cN ?_ _) | (with_reducible refine cD ?_))); (case side4 => exact (rR HO498.out).2.1); rintro e w' ⟨rfl, ⟨nd, rfl⟩⟩; refine ⟨_, rfl, ?_⟩))
         go_roundg k2
         case measure => have := HK1.out; have := HK2.out; omega
         case rel => exact ⟨(x3_2), (wrap64 (x6_2 + 1)), eQ, H', ⟨by have := HK1.out; have := HK2.out; omega⟩, ⟨by (with_reducible repeat (first | apply Kd.S_alloc | apply Kd.S_drewN | apply Kd.S_drew)); exact Kd.S_mono HO_3.out (fun _ hk => trivial)⟩, ⟨bQ⟩⟩
       ·rw [if_neg c5] at H; have c5b0 := decide_eq_false c5; clear c5; have H' := aM H; clear H; go_wp2
        go_roundg k2
        case measure => have := HK1.out; have := HK2.out; omega
        case rel => exact ⟨(x3_2), (wrap64 (x4_1 + 1)), eQ, H', ⟨by have := HK1.out; have := HK2.out; omega⟩, ⟨by (with_reducible repeat (first | apply Kd.S_alloc | apply Kd.S_drewN | apply Kd.S_drew)); exact HO_3.out⟩, ⟨bQ⟩⟩
    ·rw [if_neg c4] at H; have c4b0 : ((Int.tmod a0 x4_1) == 0) = false := beq_eq_false_iff_ne.mpr c4; have c4b1 : ((Int.tmod a0 x4_1) != 0) = true := bne_iff_ne.mpr c4; have H' := aM H; clear H; go_wp2
     go_roundg k1
     case measure => have := HK1.out; omega
     case rel => exact ⟨(x3_1), (wrap64 (x4_1 + 1)), eQ, H', ⟨by have := HK1.out; omega⟩, ⟨by (with_reducible repeat (first | apply Kd.S_alloc | apply Kd.S_drewN | apply Kd.S_drew)); exact HO_3.out⟩, ⟨bQ⟩⟩
   ·rw [if_neg c2] at H; have c2b0 := decide_eq_false c2; clear c2; obtain rfl := Option.some.inj H; go_wp2
    go_ret
    exact ⟨_, by first | rfl | (simp [errW_none, errW_some] <;> rfl) | (simp [*, errW_none, errW_some] <;> rfl), by (with_reducible repeat (first | apply Kd.S_alloc | apply Kd.S_drewN | apply Kd.S_drew)); exact HO_3.out, bQ⟩

def spec_CountKinds.f (k : Nat) (a0 : Int) : Option (Int × Bool) := (spec_l1In.f a0 1 60).bind fun t506 => (if t506 = true then ((spec_mvKinds.f k a0).bind fun t507 => (some ((t507.length : Int), true))) else (some (0, false)))
theorem spec_CountKinds.mono : ∀ a0 k, LeO (spec_CountKinds.f k a0) (spec_CountKinds.f (k + 1) a0) := by
 intro a0 k
 unfold spec_CountKinds.f
 repeat' first | (with_reducible exact spec_mvKinds.mono _ _) | (with_reducible exact LeO.refl _) | (with_reducible exact LeO.none _) | (with_reducible refine LeO.ite ?_ ?_) | (with_reducible refine LeO.bind ?_ (fun _ => ?_)) | exact spec_mvKinds.mono _ _ | exact LeO.none _ | refine LeO.ite ?_ ?_ | refine LeO.bind ?_ (fun _ => ?_)
set_option maxHeartbeats 8000000 in
set_option maxRecDepth 100000 in
theorem spec_CountKinds.calls (k : Nat) (a0 : Int) (r1 : Int) (r2 : Bool) (w : World) (h : spec_CountKinds.f k a0 = some (r1, r2)) :
  Calls Try.prog 44 #[.int .i64 a0] w fun e w' => e = .returned (.tuple #[.int .i64 r1, .bool r2]) ∧ Below w.heap.size w w' := by
 have HB := aM (Below.refl w.heap.size w)
 unfold spec_CountKinds.f at h; have H := h; clear h
 replace H := bS H; obtain ⟨t506, A2, H⟩ := H
 by_cases c3 : t506 = true
 ·subst c3; replace H := iT H; replace H := bS H; obtain ⟨t507, A4, H⟩ := H
  simp only [Option.some.injEq, Prod.mk.injEq] at H
  obtain ⟨rfl, rfl⟩ := H
  go_enter Try.func44, Try.ntmps44
  go_wp2_with (first | ((with_reducible refine gC (f := 54) rfl ?_); refine goesL_ (some 5) rfl rfl Try.func54 kR rfl #[.int .i64 a0, .int .i64 1, .int .i64 60] rfl sQ ?_; (with_reducible refine (spec_l1In.calls a0 1 60 true _ A2.out).mono ?_); rintro e w' ⟨rfl, ⟨nd, rfl⟩⟩; refine ⟨_, rfl, ?_⟩) | ((with_reducible refine gC (f := 93) rfl ?_); refine goesL_ (some 8) rfl rfl Try.func93 kR rfl #[.int .i64 a0] rfl sQ ?_; (with_reducible refine (spec_mvKinds.calls k a0 t507 _ A4.out).mono ?_); rintro e w5 ⟨v508, rfl, ho0, hb⟩; refine ⟨_, rfl, ?_⟩; have HO509 := aM (Kd.S_lower ho0 (pZ bQ)); replace HB := tB HB hb; (try clear hb); (try clear hb2); (try clear hk); (try clear hi); (try clear ho0); obtain ⟨Ao6, co6, eo6⟩ := Kd.S_slice HO509.out; subst eo6))
  go_ret2
  exact ⟨wQ, bQ⟩
 ·replace c3 := Bool.eq_false_iff.mpr c3; subst c3; replace H := iF H
  simp only [Option.some.injEq, Prod.mk.injEq] at H
  obtain ⟨rfl, rfl⟩ := H
  go_enter Try.func44, Try.ntmps44
  go_wp2_with (first | ((with_reducible refine gC (f := 54) rfl ?_); refine goesL_ (some 5) rfl rfl Try.func54 kR rfl #[.int .i64 a0, .int .i64 1, .int .i64 60] rfl sQ ?_; (with_reducible refine (spec_l1In.calls a0 1 60 false _ A2.out).mono ?_); rintro e w' ⟨rfl, ⟨nd, rfl⟩⟩; refine ⟨_, rfl, ?_⟩))
  go_ret2
  exact ⟨wQ, bQ⟩

end Go.Proofs.Ytfihohongkfibaa.X
