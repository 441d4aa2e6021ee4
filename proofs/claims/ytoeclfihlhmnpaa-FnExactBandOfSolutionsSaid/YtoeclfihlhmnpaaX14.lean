-- thin
-- short
-- compact
import Derived.Test.YtoeclfihlhmnpaaXA
import Derived.Test.YtoeclfihlhmnpaaX0
import Derived.Test.YtoeclfihlhmnpaaX12
namespace Go.Proofs.Ytoeclfihlhmnpaa.X
open Go.RowKit Go.Proofs.Ytoeclfihlhmnpaa.XW Go.Proofs.YtoeclfihlhmnpaaW.PrintWords Go.Proofs.YtoeclfihlhmnpaaW.PrintLast Go.Proofs.YtoeclfihlhmnpaaW.PrintMore
attribute [local go_sem] max2_int min2_int max_two min_two max_three min_three max_four min_four   -- for this text's walks alone
set_option linter.unusedVariables false
set_option linter.unusedSimpArgs false

def slices_order2CmpFunc_impl_Peg_at_impl_comparePegs.f (k : Nat) (l0 : List (S_impl_Peg)) (a1 : Int) (a2 : Int) (a3_0 : Int) : Option (Int × Int) := if 0 ≤ a2 then (if a2 < (l0.length : Int) then (if 0 ≤ a1 then (if a1 < (l0.length : Int) then ((impl_comparePegs.f k ((rd_impl_Peg l0 a2).f0) ((rd_impl_Peg l0 a2).f1) ((rd_impl_Peg l0 a1).f0) ((rd_impl_Peg l0 a1).f1)).bind fun t355 => (if t355 < 0 then (none) else (some (a1, a2)))) else (none)) else (none)) else (none)) else (none)
theorem slices_order2CmpFunc_impl_Peg_at_impl_comparePegs.mono : ∀ a0 a1 a2 a3 k, LeO (slices_order2CmpFunc_impl_Peg_at_impl_comparePegs.f k a0 a1 a2 a3) (slices_order2CmpFunc_impl_Peg_at_impl_comparePegs.f (k + 1) a0 a1 a2 a3) := by
 intro a0 a1 a2 a3 k
 unfold slices_order2CmpFunc_impl_Peg_at_impl_comparePegs.f
 repeat' first | (with_reducible exact impl_comparePegs.mono _ _ _ _ _) | (with_reducible exact LeO.refl _) | (with_reducible exact LeO.none _) | (with_reducible refine LeO.ite ?_ ?_) | (with_reducible refine LeO.bind ?_ (fun _ => ?_)) | exact impl_comparePegs.mono _ _ _ _ _ | exact LeO.none _ | refine LeO.ite ?_ ?_ | refine LeO.bind ?_ (fun _ => ?_)
def slices_order2CmpFunc_impl_Peg_at_impl_comparePegs.T1 : Bool × List (List Nat × List Nat) := (true, [([], []), ([], []), ([], []), ([1, 2], [1, 2]), ([3], [3]), ([], []), ([], []), ([5, 6], [5, 6]), ([7], [7]), ([0, 4, 8], [0, 4, 8]), ([9], [9])])
def slices_order2CmpFunc_impl_Peg_at_impl_comparePegs.B1 : List Nat := [0, 0, 0, 6, 14, 0, 0, 96, 224, 511, 1023]
theorem slices_order2CmpFunc_impl_Peg_at_impl_comparePegs.tab1 : rtab .any (opsOf Try.f137 1) = slices_order2CmpFunc_impl_Peg_at_impl_comparePegs.T1 := by kernel_rfl
theorem slices_order2CmpFunc_impl_Peg_at_impl_comparePegs.bits1 : waitsOk slices_order2CmpFunc_impl_Peg_at_impl_comparePegs.T1.2 slices_order2CmpFunc_impl_Peg_at_impl_comparePegs.B1 = true := by kernel_rfl
set_option maxHeartbeats 8000000 in
set_option maxRecDepth 100000 in
theorem slices_order2CmpFunc_impl_Peg_at_impl_comparePegs.calls (k : Nat) (A0 : Option Addr) (c0 : Nat) (l0 : List (S_impl_Peg)) (a1 : Int) (a2 : Int) (gx3 : Nat) (a3_0 : Int) (r1 : Int) (r2 : Int) (w : World) (hr0 : Kd.C kd_impl_Peg w A0 l0.length l0) (hc0 : l0.length ≤ c0) (hbx3 : w.heap[gx3]? = some (.cells #[.int .i64 a3_0] 3 (0, 0))) (h : slices_order2CmpFunc_impl_Peg_at_impl_comparePegs.f k l0 a1 a2 a3_0 = some (r1, r2)) :
  Calls Try.prog 137 #[.slice A0 l0.length c0, .int .i64 a1, .int .i64 a2, .pointer (some ⟨gx3, 0, none⟩), .func (.func 108) #[] #[]] w fun e w' => e = .returned (.tuple #[.int .i64 r1, .int .i64 r2]) ∧ Below w.heap.size w w' := by
 have hu41 := Try.underlying41; have hu3 := Try.underlying3; have HR0 := aM hr0; have HC0 := aM hc0; clear hr0 hc0; have BK3 := aM hbx3; clear hbx3; have HB := aM (Below.refl w.heap.size w)
 unfold slices_order2CmpFunc_impl_Peg_at_impl_comparePegs.f at h; have H := h; clear h
 replace H := iD H; obtain ⟨c5b0, H⟩ := H; replace H := iD H; obtain ⟨c6b0, H⟩ := H; replace H := iD H; obtain ⟨c7b0, H⟩ := H; replace H := iD H; obtain ⟨c8b0, H⟩ := H; replace H := bS H; obtain ⟨t355, A9, H⟩ := H
 by_cases c10 : t355 < 0
 ·rw [if_pos c10] at H; have c10b0 := dE c10; clear c10
  exact absurd H (by simp)
 ·rw [if_neg c10] at H; have c10b0 := decide_eq_false c10; clear c10
  simp only [Option.some.injEq, Prod.mk.injEq] at H
  obtain ⟨rfl, rfl⟩ := H
  go_enter Try.func137, Try.ntmps137
  try go_wp2
  replace BK3 := aM (kD BK3.out); replace HB := aM (pD HB.out); have p353 : 0 ≤ (a2 : Int) := dT aQ; have q353 : a2 < (l0.length : Int) := dT aQ; obtain ⟨ad353, e353, hx353_0, hx353_1⟩ := at_impl_Peg HR0.out a2 p353 q353; have hw353_1 := hx353_1; have hw353_0 := hx353_0
  cases e353
  replace hx353_0 := hC HB hx353_0; replace hx353_1 := hC HB hx353_1; replace p353 := eq_true p353; replace q353 := eq_true q353; have p354 : 0 ≤ (a1 : Int) := dT aQ; have q354 : a1 < (l0.length : Int) := dT aQ; obtain ⟨ad354, e354, hx354_0, hx354_1⟩ := at_impl_Peg HR0.out a1 p354 q354; have hw354_1 := hx354_1; have hw354_0 := hx354_0; obtain rfl : ad353 = ad354 := (by injection e354)
  replace hx354_0 := hC HB hx354_0; replace hx354_1 := hC HB hx354_1; replace p354 := eq_true p354; replace q354 := eq_true q354
  refine start_ (n := 11) (S := fun w' => w'.cell? (ad353.add ((a2).toNat * 2)) = some (.int .i64 ((rd_impl_Peg l0 a2).f0)) ∧ w'.cell? ⟨(ad353.add ((a2).toNat * 2)).block, (ad353.add ((a2).toNat * 2)).off + 1, none⟩ = some (.int .i64 ((rd_impl_Peg l0 a2).f1)) ∧ w'.cell? (ad353.add ((a1).toNat * 2)) = some (.int .i64 ((rd_impl_Peg l0 a1).f0)) ∧ w'.cell? ⟨(ad353.add ((a1).toNat * 2)).block, (ad353.add ((a1).toNat * 2)).off + 1, none⟩ = some (.int .i64 ((rd_impl_Peg l0 a1).f1))) (ds := []) (bA 11 0) kR rfl kR ⟨(hC HB hw353_0 :), (hC HB hw353_1 :), (hC HB hw354_0 :), (hC HB hw354_1 :)⟩ (fun hHeld => ?_); refine with_tabW slices_order2CmpFunc_impl_Peg_at_impl_comparePegs.tab1 slices_order2CmpFunc_impl_Peg_at_impl_comparePegs.bits1 (fun HT_ HW_ => ?_)
  generalize w.drew = w11 at BK3 HB hx353_0 hx353_1 hx354_0 hx354_1 hHeld ⊢
  refine pU 0 12 (bA 11 1) HT_ ?_; refine pU 1 13 (bA 11 3) HT_ ?_; refine pU 2 14 (bA 11 7) HT_ ?_; refine pU 3 15 (bA 11 15) HT_ ?_; refine pU 5 17 (bA 11 47) HT_ ?_; refine pU 6 18 (bA 11 111) HT_ ?_; refine pU 7 19 (bA 11 239) HT_ ?_
  refine tU 4 16 (bA 11 255) HT_ HW_ hHeld ?_ (hy := Or.inl ⟨by rfl, by rintro w' ⟨s0, s1, s2, s3⟩; go_simp; with_reducible rfl⟩)
  refine tU 8 20 (bA 11 511) HT_ HW_ hHeld ?_ (hy := Or.inl ⟨by rfl, by rintro w' ⟨s0, s1, s2, s3⟩; go_simp; with_reducible rfl⟩)
  refine oU 9 21 (bA 11 1023) HT_ (fun K hK => ?_)
  refine goesT_ Try.func108 kR rfl #[.agg #[.int .i64 ((rd_impl_Peg l0 a2).f0), .int .i64 ((rd_impl_Peg l0 a2).f1)], .agg #[.int .i64 ((rd_impl_Peg l0 a1).f0), .int .i64 ((rd_impl_Peg l0 a1).f1)]] (by rfl) rfl rfl (by first | rfl | (simp [Act.eval]; done)) sQ ?_
  with_reducible refine (impl_comparePegs.calls k ((rd_impl_Peg l0 a2).f0) ((rd_impl_Peg l0 a2).f1) ((rd_impl_Peg l0 a1).f0) ((rd_impl_Peg l0 a1).f1) t355 _ A9.out).mono ?_
  rintro e w12 ⟨rfl, hb⟩; refine ⟨_, rfl, ?_⟩; replace BK3 := aM (blk_below (g := gx3) (o := .cells #[.int .i64 a3_0] 3 (0, 0)) (gQ BK3) hb); replace HB := tB HB hb; (try clear hb); (try clear hb2); (try clear hk); (try clear hi)
  refine hK.out _ _ ⟨(hC HB hw353_0 :), (hC HB hw353_1 :), (hC HB hw354_0 :), (hC HB hw354_1 :)⟩ (fun hHeld => ?_)
  clear hK K
  refine nU ?_
  refine pU 10 22 (bA 11 2047) HT_ ?_
  refine done_ (done_of HT_.out kR) ?_
  try go_wp2
  go_ret2
  exact ⟨wQ, bE⟩
def slices_medianCmpFunc_impl_Peg_at_impl_comparePegs.f (k : Nat) (l0 : List (S_impl_Peg)) (a1 : Int) (a2 : Int) (a3 : Int) (a4_0 : Int) : Option (Int) := (slices_order2CmpFunc_impl_Peg_at_impl_comparePegs.f k l0 a1 a2 a4_0).bind fun bt356 => ((slices_order2CmpFunc_impl_Peg_at_impl_comparePegs.f k l0 bt356.2 a3 a4_0).bind fun bt358 => ((slices_order2CmpFunc_impl_Peg_at_impl_comparePegs.f k l0 bt356.1 bt358.1 a4_0).bind fun bt360 => (some bt360.2)))
theorem slices_medianCmpFunc_impl_Peg_at_impl_comparePegs.mono : ∀ a0 a1 a2 a3 a4 k, LeO (slices_medianCmpFunc_impl_Peg_at_impl_comparePegs.f k a0 a1 a2 a3 a4) (slices_medianCmpFunc_impl_Peg_at_impl_comparePegs.f (k + 1) a0 a1 a2 a3 a4) := by
 intro a0 a1 a2 a3 a4 k
 unfold slices_medianCmpFunc_impl_Peg_at_impl_comparePegs.f
 repeat' first | (with_reducible exact slices_order2CmpFunc_impl_Peg_at_impl_comparePegs.mono _ _ _ _ _) | (with_reducible exact LeO.refl _) | (with_reducible exact LeO.none _) | (with_reducible refine LeO.ite ?_ ?_) | (with_reducible refine LeO.bind ?_ (fun _ => ?_)) | exact slices_order2CmpFunc_impl_Peg_at_impl_comparePegs.mono _ _ _ _ _ | exact LeO.none _ | refine LeO.ite ?_ ?_ | refine LeO.bind ?_ (fun _ => ?_)
set_option maxHeartbeats 8000000 in
set_option maxRecDepth 100000 in
theorem slices_medianCmpFunc_impl_Peg_at_impl_comparePegs.calls (k : Nat) (A0 : Option Addr) (c0 : Nat) (l0 : List (S_impl_Peg)) (a1 : Int) (a2 : Int) (a3 : Int) (gx4 : Nat) (a4_0 : Int) (r : Int) (w : World) (hr0 : Kd.C kd_impl_Peg w A0 l0.length l0) (hc0 : l0.length ≤ c0) (hbx4 : w.heap[gx4]? = some (.cells #[.int .i64 a4_0] 3 (0, 0))) (h : slices_medianCmpFunc_impl_Peg_at_impl_comparePegs.f k l0 a1 a2 a3 a4_0 = some r) :
  Calls Try.prog 136 #[.slice A0 l0.length c0, .int .i64 a1, .int .i64 a2, .int .i64 a3, .pointer (some ⟨gx4, 0, none⟩), .func (.func 108) #[] #[]] w fun e w' => e = .returned (.int .i64 r) ∧ Below w.heap.size w w' := by
 have HR0 := aM hr0; have HC0 := aM hc0; clear hr0 hc0; have BK4 := aM hbx4; clear hbx4; have HB := aM (Below.refl w.heap.size w)
 unfold slices_medianCmpFunc_impl_Peg_at_impl_comparePegs.f at h; have H := h; clear h
 replace H := bS H; obtain ⟨⟨t356, t357⟩, A6, H⟩ := H; replace H := bS H; obtain ⟨⟨t358, t359⟩, A7, H⟩ := H; replace H := bS H; obtain ⟨⟨t360, t361⟩, A8, H⟩ := H; obtain rfl := Option.some.inj H
 go_enter Try.func136, Try.ntmps136
 go_wp2_with (first | ((with_reducible refine gC (f := 137) rfl ?_); refine goesL_ (some 19) rfl rfl Try.func137 kR rfl #[.slice A0 l0.length c0, .int .i64 a1, .int .i64 a2, .pointer (some ⟨gx4, 0, none⟩), .func (.func 108) #[] #[]] rfl sQ ?_; (with_reducible refine (slices_order2CmpFunc_impl_Peg_at_impl_comparePegs.calls k _ _ l0 a1 a2 gx4 a4_0 t356 t357 _ ?side1 ?side2 ?side3 A6.out).mono ?_); (case side1 => repeat (first | exact HR0.out | (with_reducible refine cA ?_ _) | (with_reducible refine cN ?_ _) | (with_reducible refine cD ?_))); (case side2 => exact HC0.out); (case side3 => exact (gQ BK4)); rintro e w9 ⟨rfl, hb⟩; refine ⟨_, rfl, ?_⟩; replace BK4 := aM (blk_below (g := gx4) (o := .cells #[.int .i64 a4_0] 3 (0, 0)) (gQ BK4) hb); replace HB := tB HB hb; (try clear hb); (try clear hb2); (try clear hk); (try clear hi)) | ((with_reducible refine gC (f := 137) rfl ?_); refine goesL_ (some 28) rfl rfl Try.func137 kR rfl #[.slice A0 l0.length c0, .int .i64 t357, .int .i64 a3, .pointer (some ⟨gx4, 0, none⟩), .func (.func 108) #[] #[]] rfl sQ ?_; (with_reducible refine (slices_order2CmpFunc_impl_Peg_at_impl_comparePegs.calls k _ _ l0 t357 a3 gx4 a4_0 t358 t359 _ ?side1 ?side2 ?side3 A7.out).mono ?_); (case side1 => repeat (first | exact (Kd.C_below HR0.out HB.out) | (with_reducible refine cA ?_ _) | (with_reducible refine cN ?_ _) | (with_reducible refine cD ?_))); (case side2 => exact HC0.out); (case side3 => exact (gQ BK4)); rintro e w10 ⟨rfl, hb⟩; refine ⟨_, rfl, ?_⟩; replace BK4 := aM (blk_below (g := gx4) (o := .cells #[.int .i64 a4_0] 3 (0, 0)) (gQ BK4) hb); replace HB := tB HB hb; (try clear hb); (try clear hb2); (try clear hk); (try clear hi)) | ((with_reducible refine gC (f := 137) rfl ?_); refine goesL_ (some 37) rfl rfl Try.func137 kR rfl #[.slice A0 l0.length c0, .int .i64 t356, .int .i64 t358, .pointer (some ⟨gx4, 0, none⟩), .func (.func 108) #[] #[]] rfl sQ ?_; (with_reducible refine (slices_order2CmpFunc_impl_Peg_at_impl_comparePegs.calls k _ _ l0 t356 t358 gx4 a4_0 t360 t361 _ ?side1 ?side2 ?side3 A8.out).mono ?_); (case side1 => repeat (first | exact (Kd.C_below HR0.out HB.out) | (with_reducible refine cA ?_ _) | (with_reducible refine cN ?_ _) | (with_reducible refine cD ?_))); (case side2 => exact HC0.out); (case side3 => exact (gQ BK4)); rintro e w11 ⟨rfl, hb⟩; refine ⟨_, rfl, ?_⟩; replace BK4 := aM (blk_below (g := gx4) (o := .cells #[.int .i64 a4_0] 3 (0, 0)) (gQ BK4) hb); replace HB := tB HB hb; (try clear hb); (try clear hb2); (try clear hk); (try clear hi)))
 go_ret
 exact ⟨wQ, bE⟩

def slices_medianAdjacentCmpFunc_impl_Peg_at_impl_comparePegs.f (k : Nat) (l0 : List (S_impl_Peg)) (a1 : Int) (a2_0 : Int) : Option (Int) := (slices_medianCmpFunc_impl_Peg_at_impl_comparePegs.f k l0 (wrap64 (a1 - 1)) a1 (wrap64 (a1 + 1)) a2_0).bind fun t362 => (some t362)
theorem slices_medianAdjacentCmpFunc_impl_Peg_at_impl_comparePegs.mono : ∀ a0 a1 a2 k, LeO (slices_medianAdjacentCmpFunc_impl_Peg_at_impl_comparePegs.f k a0 a1 a2) (slices_medianAdjacentCmpFunc_impl_Peg_at_impl_comparePegs.f (k + 1) a0 a1 a2) := by
 intro a0 a1 a2 k
 unfold slices_medianAdjacentCmpFunc_impl_Peg_at_impl_comparePegs.f
 repeat' first | (with_reducible exact slices_medianCmpFunc_impl_Peg_at_impl_comparePegs.mono _ _ _ _ _ _) | (with_reducible exact LeO.refl _) | (with_reducible exact LeO.none _) | (with_reducible refine LeO.ite ?_ ?_) | (with_reducible refine LeO.bind ?_ (fun _ => ?_)) | exact slices_medianCmpFunc_impl_Peg_at_impl_comparePegs.mono _ _ _ _ _ _ | exact LeO.none _ | refine LeO.ite ?_ ?_ | refine LeO.bind ?_ (fun _ => ?_)
set_option maxHeartbeats 8000000 in
set_option maxRecDepth 100000 in
theorem slices_medianAdjacentCmpFunc_impl_Peg_at_impl_comparePegs.calls (k : Nat) (A0 : Option Addr) (c0 : Nat) (l0 : List (S_impl_Peg)) (a1 : Int) (gx2 : Nat) (a2_0 : Int) (r : Int) (w : World) (hr0 : Kd.C kd_impl_Peg w A0 l0.length l0) (hc0 : l0.length ≤ c0) (hbx2 : w.heap[gx2]? = some (.cells #[.int .i64 a2_0] 3 (0, 0))) (h : slices_medianAdjacentCmpFunc_impl_Peg_at_impl_comparePegs.f k l0 a1 a2_0 = some r) :
  Calls Try.prog 135 #[.slice A0 l0.length c0, .int .i64 a1, .pointer (some ⟨gx2, 0, none⟩), .func (.func 108) #[] #[]] w fun e w' => e = .returned (.int .i64 r) ∧ Below w.heap.size w w' := by
 have HR0 := aM hr0; have HC0 := aM hc0; clear hr0 hc0; have BK2 := aM hbx2; clear hbx2; have HB := aM (Below.refl w.heap.size w)
 unfold slices_medianAdjacentCmpFunc_impl_Peg_at_impl_comparePegs.f at h; have H := h; clear h
 replace H := bS H; obtain ⟨t362, A4, H⟩ := H; obtain rfl := Option.some.inj H
 go_enter Try.func135, Try.ntmps135
 go_wp2_with (first | ((with_reducible refine gC (f := 136) rfl ?_); refine goesL_ (some 17) rfl rfl Try.func136 kR rfl #[.slice A0 l0.length c0, .int .i64 (wrap64 (a1 - 1)), .int .i64 a1, .int .i64 (wrap64 (a1 + 1)), .pointer (some ⟨gx2, 0, none⟩), .func (.func 108) #[] #[]] rfl sQ ?_; (with_reducible refine (slices_medianCmpFunc_impl_Peg_at_impl_comparePegs.calls k _ _ l0 (wrap64 (a1 - 1)) a1 (wrap64 (a1 + 1)) gx2 a2_0 t362 _ ?side1 ?side2 ?side3 A4.out).mono ?_); (case side1 => repeat (first | exact HR0.out | (with_reducible refine cA ?_ _) | (with_reducible refine cN ?_ _) | (with_reducible refine cD ?_))); (case side2 => exact HC0.out); (case side3 => exact (gQ BK2)); rintro e w5 ⟨rfl, hb⟩; refine ⟨_, rfl, ?_⟩; replace BK2 := aM (blk_below (g := gx2) (o := .cells #[.int .i64 a2_0] 3 (0, 0)) (gQ BK2) hb); replace HB := tB HB hb; (try clear hb); (try clear hb2); (try clear hk); (try clear hi)))
 go_ret
 exact ⟨wQ, bE⟩

def slices_choosePivotCmpFunc_impl_Peg_at_impl_comparePegs.j0 : Nat → Int → Int → Option (Int × Int)
 | 0, _, _ => none
 | k + 1, x13, x364000 => if x364000 = 0 then (some (x13, 1)) else (if x364000 = 12 then (some (x13, 2)) else (some (x13, 0)))
def slices_choosePivotCmpFunc_impl_Peg_at_impl_comparePegs.f (k : Nat) (l0 : List (S_impl_Peg)) (a1 : Int) (a2 : Int) : Option (Int × Int) := if (wrap64 (a2 - a1)) ≥ 8 then (if (wrap64 (a2 - a1)) ≥ 50 then ((slices_medianAdjacentCmpFunc_impl_Peg_at_impl_comparePegs.f k l0 (wrap64 (a1 + (wrap64 ((wrap64 (Int.tdiv (wrap64 (a2 - a1)) 4)))))) 0).bind fun t364 => ((slices_medianAdjacentCmpFunc_impl_Peg_at_impl_comparePegs.f k l0 (wrap64 (a1 + (wrap64 ((wrap64 (Int.tdiv (wrap64 (a2 - a1)) 4)) * 2)))) 0).bind fun t365 => ((slices_medianAdjacentCmpFunc_impl_Peg_at_impl_comparePegs.f k l0 (wrap64 (a1 + (wrap64 ((wrap64 (Int.tdiv (wrap64 (a2 - a1)) 4)) * 3)))) 0).bind fun t366 => ((slices_medianCmpFunc_impl_Peg_at_impl_comparePegs.f k l0 t364 t365 t366 0).bind fun t367 => (slices_choosePivotCmpFunc_impl_Peg_at_impl_comparePegs.j0 k t367 0))))) else ((slices_medianCmpFunc_impl_Peg_at_impl_comparePegs.f k l0 (wrap64 (a1 + (wrap64 ((wrap64 (Int.tdiv (wrap64 (a2 - a1)) 4)))))) (wrap64 (a1 + (wrap64 ((wrap64 (Int.tdiv (wrap64 (a2 - a1)) 4)) * 2)))) (wrap64 (a1 + (wrap64 ((wrap64 (Int.tdiv (wrap64 (a2 - a1)) 4)) * 3)))) 0).bind fun t368 => (slices_choosePivotCmpFunc_impl_Peg_at_impl_comparePegs.j0 k t368 0))) else (slices_choosePivotCmpFunc_impl_Peg_at_impl_comparePegs.j0 k (wrap64 (a1 + (wrap64 ((wrap64 (Int.tdiv (wrap64 (a2 - a1)) 4)) * 2)))) 0)
theorem slices_choosePivotCmpFunc_impl_Peg_at_impl_comparePegs.mono_l : ∀ k, (∀ y0 y1, LeO (slices_choosePivotCmpFunc_impl_Peg_at_impl_comparePegs.j0 k y0 y1) (slices_choosePivotCmpFunc_impl_Peg_at_impl_comparePegs.j0 (k + 1) y0 y1))
 | 0 => fun _ _ r h => by simp [slices_choosePivotCmpFunc_impl_Peg_at_impl_comparePegs.j0] at h
 | k + 1 => by
  have ih0 := slices_choosePivotCmpFunc_impl_Peg_at_impl_comparePegs.mono_l k
  ·intro y0 y1
   unfold slices_choosePivotCmpFunc_impl_Peg_at_impl_comparePegs.j0
   repeat' first
   | (with_reducible exact ih0 _ _)
   | (with_reducible exact slices_medianAdjacentCmpFunc_impl_Peg_at_impl_comparePegs.mono _ _ _ _)
   | (with_reducible exact slices_medianCmpFunc_impl_Peg_at_impl_comparePegs.mono _ _ _ _ _ _)
   | (with_reducible exact LeO.refl _)
   | (with_reducible exact LeO.none _)
   | (with_reducible refine LeO.ite ?_ ?_)
   | (with_reducible refine LeO.bind ?_ (fun _ => ?_))
   | exact ih0 _ _
   | exact slices_medianAdjacentCmpFunc_impl_Peg_at_impl_comparePegs.mono _ _ _ _
   | exact slices_medianCmpFunc_impl_Peg_at_impl_comparePegs.mono _ _ _ _ _ _
   | exact LeO.none _
   | refine LeO.ite ?_ ?_
   | refine LeO.bind ?_ (fun _ => ?_)
theorem slices_choosePivotCmpFunc_impl_Peg_at_impl_comparePegs.mono : ∀ a0 a1 a2 k, LeO (slices_choosePivotCmpFunc_impl_Peg_at_impl_comparePegs.f k a0 a1 a2) (slices_choosePivotCmpFunc_impl_Peg_at_impl_comparePegs.f (k + 1) a0 a1 a2) := by
 intro a0 a1 a2 k
 have ih0 := slices_choosePivotCmpFunc_impl_Peg_at_impl_comparePegs.mono_l k
 unfold slices_choosePivotCmpFunc_impl_Peg_at_impl_comparePegs.f
 repeat' first | (with_reducible exact ih0 _ _) | (with_reducible exact slices_medianAdjacentCmpFunc_impl_Peg_at_impl_comparePegs.mono _ _ _ _) | (with_reducible exact slices_medianCmpFunc_impl_Peg_at_impl_comparePegs.mono _ _ _ _ _ _) | (with_reducible exact LeO.refl _) | (with_reducible exact LeO.none _) | (with_reducible refine LeO.ite ?_ ?_) | (with_reducible refine LeO.bind ?_ (fun _ => ?_)) | exact ih0 _ _ | exact slices_medianAdjacentCmpFunc_impl_Peg_at_impl_comparePegs.mono _ _ _ _ | exact slices_medianCmpFunc_impl_Peg_at_impl_comparePegs.mono _ _ _ _ _ _ | exact LeO.none _ | refine LeO.ite ?_ ?_ | refine LeO.bind ?_ (fun _ => ?_)
set_option maxHeartbeats 8000000 in
set_option maxRecDepth 100000 in
theorem slices_choosePivotCmpFunc_impl_Peg_at_impl_comparePegs.calls (k : Nat) (A0 : Option Addr) (c0 : Nat) (l0 : List (S_impl_Peg)) (a1 : Int) (a2 : Int) (r1 : Int) (r2 : Int) (w : World) (hr0 : Kd.C kd_impl_Peg w A0 l0.length l0) (hc0 : l0.length ≤ c0) (h : slices_choosePivotCmpFunc_impl_Peg_at_impl_comparePegs.f k l0 a1 a2 = some (r1, r2)) :
  Calls Try.prog 124 #[.slice A0 l0.length c0, .int .i64 a1, .int .i64 a2, .func (.func 108) #[] #[]] w fun e w' => e = .returned (.tuple #[.int .i64 r1, .int .i64 r2]) ∧ Below w.heap.size w w' := by
 have hu3 := Try.underlying3; have HR0 := aM hr0; have HC0 := aM hc0; clear hr0 hc0; have HB := aM (Below.refl w.heap.size w)
 unfold slices_choosePivotCmpFunc_impl_Peg_at_impl_comparePegs.f at h; have H := h; clear h
 have HC4 := aM H; clear H
 go_enter Try.func124, Try.ntmps124
 go_upto_if 34 with (first | ((with_reducible refine gate_dst (N := 11) rfl ?_); refine bV 11 (cs := #[.int .i64 0]) (t := 3) rfl rfl (by first | (go_simp; done) | (go_simp; rfl)) ?_; intro gb363 hg w5 hbox hb; have n0_ := tB HB hb; have n1_ := hbox; have n2_ := gZ HB hg; have n3_ := gZ HB hg; clear HB; have HB := n0_; have BK363 := n1_; have GW363 := n2_; have GE363 := n3_; clear n0_ n1_ n2_ n3_; clear hb hbox hg))
 (try simp only [Act.put, sI, sZ, sS])
 go_cut [13] (fun v13 wc => ∃ (kq : Nat) (x13_3 : Int), v13 = .int .i64 x13_3 ∧ Aside0 (slices_choosePivotCmpFunc_impl_Peg_at_impl_comparePegs.j0 kq x13_3 0 = some (r1, r2)) ∧ Aside0 (kq ≤ k) ∧ Aside0 (wc.heap[gb363]? = some (.cells #[.int .i64 0] 3 (0, 0))) ∧ Aside0 (Below w.heap.size w wc))
 case first =>
  have H := HC4.out; clear HC4
  by_cases c6 : (wrap64 (a2 - a1)) ≥ 8
  ·rw [if_pos c6] at H; have c6b0 := dE c6; clear c6
   (first | rw [c6b0] | (simp only [i64_w, i32_w]; rw [c6b0]) | skip)
   by_cases c7 : (wrap64 (a2 - a1)) ≥ 50
   ·rw [if_pos c7] at H; have c7b0 := dE c7; clear c7; replace H := bS H; obtain ⟨t364, A8, H⟩ := H; replace H := bS H; obtain ⟨t365, A9, H⟩ := H; replace H := bS H; obtain ⟨t366, A10, H⟩ := H; replace H := bS H; obtain ⟨t367, A11, H⟩ := H; have H' := aM H; clear H
    go_wp2_with (first | ((with_reducible refine gC (f := 135) rfl ?_); refine goesL_ (some 40) rfl rfl Try.func135 kR rfl #[.slice A0 l0.length c0, .int .i64 (wrap64 (a1 + (wrap64 ((wrap64 (Int.tdiv (wrap64 (a2 - a1)) 4)))))), .pointer (some ⟨gb363, 0, none⟩), .func (.func 108) #[] #[]] rfl sQ ?_; (with_reducible refine (slices_medianAdjacentCmpFunc_impl_Peg_at_impl_comparePegs.calls k _ _ l0 (wrap64 (a1 + (wrap64 ((wrap64 (Int.tdiv (wrap64 (a2 - a1)) 4)))))) gb363 0 t364 _ ?side1 ?side2 ?side3 A8.out).mono ?_); (case side1 => repeat (first | exact (Kd.C_below HR0.out HB.out) | (with_reducible refine cA ?_ _) | (with_reducible refine cN ?_ _) | (with_reducible refine cD ?_))); (case side2 => exact HC0.out); (case side3 => exact (gQ BK363)); rintro e w12 ⟨rfl, hb⟩; refine ⟨_, rfl, ?_⟩; replace BK363 := bB BK363 hb; replace HB := tB HB hb; (try clear hb); (try clear hb2); (try clear hk); (try clear hi)) | ((with_reducible refine gC (f := 135) rfl ?_); refine goesL_ (some 44) rfl rfl Try.func135 kR rfl #[.slice A0 l0.length c0, .int .i64 (wrap64 (a1 + (wrap64 ((wrap64 (Int.tdiv (wrap64 (a2 - a1)) 4)) * 2)))), .pointer (some ⟨gb363, 0, none⟩), .func (.func 108) #[] #[]] rfl sQ ?_; (with_reducible refine (slices_medianAdjacentCmpFunc_impl_Peg_at_impl_comparePegs.calls k _ _ l0 (wrap64 (a1 + (wrap64 ((wrap64 (Int.tdiv (wrap64 (a2 - a1)) 4)) * 2)))) gb363 0 t365 _ ?side1 ?side2 ?side3 A9.out).mono ?_); (case side1 => repeat (first | exact (Kd.C_below HR0.out HB.out) | (with_reducible refine cA ?_ _) | (with_reducible refine cN ?_ _) | (with_reducible refine cD ?_))); (case side2 => exact HC0.out); (case side3 => exact (gQ BK363)); rintro e w13 ⟨rfl, hb⟩; refine ⟨_, rfl, ?_⟩; replace BK363 := bB BK363 hb; replace HB := tB HB hb; (try clear hb); (try clear hb2); (try clear hk); (try clear hi)) | ((with_reducible refine gC (f := 135) rfl ?_); refine goesL_ (some 48) rfl rfl Try.func135 kR rfl #[.slice A0 l0.length c0, .int .i64 (wrap64 (a1 + (wrap64 ((wrap64 (Int.tdiv (wrap64 (a2 - a1)) 4)) * 3)))), .pointer (some ⟨gb363, 0, none⟩), .func (.func 108) #[] #[]] rfl sQ ?_; (with_reducible refine (slices_medianAdjacentCmpFunc_impl_Peg_at_impl_comparePegs.calls k _ _ l0 (wrap64 (a1 + (wrap64 ((wrap64 (Int.tdiv (wrap64 (a2 - a1)) 4)) * 3)))) gb363 0 t366 _ ?side1 ?side2 ?side3 A10.out).mono ?_); (case side1 => repeat (first | exact (Kd.C_below HR0.out HB.out) | (with_reducible refine cA ?_ _) | (with_reducible refine cN ?_ _) | (with_reducible refine cD ?_))); (case side2 => exact HC0.out); (case side3 => exact (gQ BK363)); rintro e w14 ⟨rfl, hb⟩; refine ⟨_, rfl, ?_⟩; replace BK363 := bB BK363 hb; replace HB := tB HB hb; (try clear hb); (try clear hb2); (try clear hk); (try clear hi)) | ((with_reducible refine gC (f := 136) rfl ?_); refine goesL_ (some 54) rfl rfl Try.func136 kR rfl #[.slice A0 l0.length c0, .int .i64 t364, .int .i64 t365, .int .i64 t366, .pointer (some ⟨gb363, 0, none⟩), .func (.func 108) #[] #[]] rfl sQ ?_; (with_reducible refine (slices_medianCmpFunc_impl_Peg_at_impl_comparePegs.calls k _ _ l0 t364 t365 t366 gb363 0 t367 _ ?side1 ?side2 ?side3 A11.out).mono ?_); (case side1 => repeat (first | exact (Kd.C_below HR0.out HB.out) | (with_reducible refine cA ?_ _) | (with_reducible refine cN ?_ _) | (with_reducible refine cD ?_))); (case side2 => exact HC0.out); (case side3 => exact (gQ BK363)); rintro e w15 ⟨rfl, hb⟩; refine ⟨_, rfl, ?_⟩; replace BK363 := bB BK363 hb; replace HB := tB HB hb; (try clear hb); (try clear hb2); (try clear hk); (try clear hi)))
    go_meet
    case rel => exact ⟨_, (t367), eQ, H', ⟨by first | omega | exact Nat.le_refl _⟩, ⟨gQ BK363⟩, ⟨bE⟩⟩
   ·rw [if_neg c7] at H; have c7b0 := decide_eq_false c7; clear c7; replace H := bS H; obtain ⟨t368, A16, H⟩ := H; have H' := aM H; clear H
    go_wp2_with (first | ((with_reducible refine gC (f := 136) rfl ?_); refine goesL_ (some 54) rfl rfl Try.func136 kR rfl #[.slice A0 l0.length c0, .int .i64 (wrap64 (a1 + (wrap64 ((wrap64 (Int.tdiv (wrap64 (a2 - a1)) 4)))))), .int .i64 (wrap64 (a1 + (wrap64 ((wrap64 (Int.tdiv (wrap64 (a2 - a1)) 4)) * 2)))), .int .i64 (wrap64 (a1 + (wrap64 ((wrap64 (Int.tdiv (wrap64 (a2 - a1)) 4)) * 3)))), .pointer (some ⟨gb363, 0, none⟩), .func (.func 108) #[] #[]] rfl sQ ?_; (with_reducible refine (slices_medianCmpFunc_impl_Peg_at_impl_comparePegs.calls k _ _ l0 (wrap64 (a1 + (wrap64 ((wrap64 (Int.tdiv (wrap64 (a2 - a1)) 4)))))) (wrap64 (a1 + (wrap64 ((wrap64 (Int.tdiv (wrap64 (a2 - a1)) 4)) * 2)))) (wrap64 (a1 + (wrap64 ((wrap64 (Int.tdiv (wrap64 (a2 - a1)) 4)) * 3)))) gb363 0 t368 _ ?side1 ?side2 ?side3 A16.out).mono ?_); (case side1 => repeat (first | exact (Kd.C_below HR0.out HB.out) | (with_reducible refine cA ?_ _) | (with_reducible refine cN ?_ _) | (with_reducible refine cD ?_))); (case side2 => exact HC0.out); (case side3 => exact (gQ BK363)); rintro e w17 ⟨rfl, hb⟩; refine ⟨_, rfl, ?_⟩; replace BK363 := bB BK363 hb; replace HB := tB HB hb; (try clear hb); (try clear hb2); (try clear hk); (try clear hi)))
    go_meet
    case rel => exact ⟨_, (t368), eQ, H', ⟨by first | omega | exact Nat.le_refl _⟩, ⟨gQ BK363⟩, ⟨bE⟩⟩
  ·rw [if_neg c6] at H; have c6b0 := decide_eq_false c6; clear c6
   (first | rw [c6b0] | (simp only [i64_w, i32_w]; rw [c6b0]) | skip)
   have H' := aM H; clear H; go_wp2
   go_meet
   case rel => exact ⟨_, (wrap64 (a1 + (wrap64 ((wrap64 (Int.tdiv (wrap64 (a2 - a1)) 4)) * 2)))), eQ, H', ⟨by first | omega | exact Nat.le_refl _⟩, ⟨gQ BK363⟩, ⟨bE⟩⟩
 case rest =>
  clear HC4; obtain ⟨kq, x13_3, rfl, HA, HJ3, BK363, HB⟩ := hcut
  cases kq with
  | zero => exact absurd HA.out (by simp [slices_choosePivotCmpFunc_impl_Peg_at_impl_comparePegs.j0])
  | succ kj3 =>
   have H := HA.out; clear HA
   rw [slices_choosePivotCmpFunc_impl_Peg_at_impl_comparePegs.j0] at H
   by_cases c18 : (0 : Int) = 0
   ·rw [if_pos c18] at H; have c18b0 : ((0 : Int) == 0) = true := beq_iff_eq.mpr c18; have c18b1 : ((0 : Int) != 0) = false := bne_eq_false_iff_eq.mpr c18; clear c18
    simp only [Option.some.injEq, Prod.mk.injEq] at H
    obtain ⟨rfl, rfl⟩ := H; have hcz19_0 : wc.cell? ⟨gb363, 0, none⟩ = some (.int .i64 0) := vZ0 BK363; have hfz19_0 := kF BK363.out 0; go_wp2
    go_ret2
    exact ⟨wQ, bE⟩
   ·exact absurd rfl c18

end Go.Proofs.Ytoeclfihlhmnpaa.X
