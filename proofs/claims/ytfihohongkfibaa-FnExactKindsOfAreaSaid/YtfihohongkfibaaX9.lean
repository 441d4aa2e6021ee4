-- thin
-- short
-- compact
import Derived.Test.YtfihohongkfibaaXA
import Derived.Test.YtfihohongkfibaaX0
import Derived.Test.YtfihohongkfibaaX1
import Derived.Test.YtfihohongkfibaaX8
namespace Go.Proofs.Ytfihohongkfibaa.X
open Go.RowKit Go.Proofs.Ytfihohongkfibaa.XW Go.Proofs.YtfihohongkfibaaW.PrintWords Go.Proofs.YtfihohongkfibaaW.PrintLast Go.Proofs.YtfihohongkfibaaW.PrintMore
attribute [local go_sem] max2_int min2_int max_two min_two max_three min_three max_four min_four   -- for this text's walks alone
set_option linter.unusedVariables false
set_option linter.unusedSimpArgs false

attribute [local go_sem high] eqA50
def spec_mvBefore.l0 : Nat → List (S_impl_Peg) → List (S_impl_Peg) → Int → Int → Option (Bool)
 | 0, _, _, _, _ => none
 | k + 1, x0, x1, x7, x8 => if x8 < x7 then (if 0 ≤ x8 then (if x8 < (x0.length : Int) then (if x8 < (x1.length : Int) then (if (!(((rd_impl_Peg x0 x8).f0) == ((rd_impl_Peg x1 x8).f0)) || (!(((rd_impl_Peg x0 x8).f1) == ((rd_impl_Peg x1 x8).f1)))) = true then ((spec_pgLess.f ((rd_impl_Peg x0 x8).f0) ((rd_impl_Peg x0 x8).f1) ((rd_impl_Peg x1 x8).f0) ((rd_impl_Peg x1 x8).f1)).bind fun t235 => (some t235)) else (spec_mvBefore.l0 k x0 x1 x7 (wrap64 (x8 + 1)))) else (none)) else (none)) else (none)) else (some false)
def spec_mvBefore.f (k : Nat) (l0 : List (S_impl_Peg)) (l1 : List (S_impl_Peg)) : Option (Bool) := spec_mvBefore.l0 k l0 l1 (l0.length : Int) 0
theorem spec_mvBefore.mono_l : ∀ k, (∀ y0 y1 y2 y3, LeO (spec_mvBefore.l0 k y0 y1 y2 y3) (spec_mvBefore.l0 (k + 1) y0 y1 y2 y3))
 | 0 => fun _ _ _ _ r h => by simp [spec_mvBefore.l0] at h
 | k + 1 => by
  have ih0 := spec_mvBefore.mono_l k
  ·intro y0 y1 y2 y3
   unfold spec_mvBefore.l0
   repeat' first
   | (with_reducible exact ih0 _ _ _ _)
   | (with_reducible exact LeO.refl _)
   | (with_reducible exact LeO.none _)
   | (with_reducible refine LeO.ite ?_ ?_)
   | (with_reducible refine LeO.bind ?_ (fun _ => ?_))
   | exact ih0 _ _ _ _
   | exact LeO.none _
   | refine LeO.ite ?_ ?_
   | refine LeO.bind ?_ (fun _ => ?_)
theorem spec_mvBefore.mono : ∀ a0 a1 k, LeO (spec_mvBefore.f k a0 a1) (spec_mvBefore.f (k + 1) a0 a1) := by
 intro a0 a1 k
 have ih0 := spec_mvBefore.mono_l k
 unfold spec_mvBefore.f
 repeat' first | (with_reducible exact ih0 _ _ _ _) | (with_reducible exact LeO.refl _) | (with_reducible exact LeO.none _) | (with_reducible refine LeO.ite ?_ ?_) | (with_reducible refine LeO.bind ?_ (fun _ => ?_)) | exact ih0 _ _ _ _ | exact LeO.none _ | refine LeO.ite ?_ ?_ | refine LeO.bind ?_ (fun _ => ?_)
def spec_mvBefore.T4 : Bool × List (List Nat × List Nat) := (true, [([], []), ([], []), ([0, 1], [0, 1]), ([2], [2]), ([], []), ([], []), ([4, 5], [4, 5]), ([6], [6]), ([3, 7], [3, 7])])
def spec_mvBefore.B4 : List Nat := [0, 0, 3, 7, 0, 0, 48, 112, 255]
theorem spec_mvBefore.tab4 : rtab .any (opsOf Try.f127 4) = spec_mvBefore.T4 := by kernel_rfl
theorem spec_mvBefore.bits4 : waitsOk spec_mvBefore.T4.2 spec_mvBefore.B4 = true := by kernel_rfl
def spec_mvBefore.T5 : Bool × List (List Nat × List Nat) := (true, [([], []), ([], []), ([0, 1], [0, 1]), ([2], [2]), ([], []), ([], []), ([4, 5], [4, 5]), ([6], [6]), ([3, 7], [3, 7]), ([8, 8, 0, 1, 2, 3, 4, 5, 6, 7, 8], [8])])
def spec_mvBefore.B5 : List Nat := [0, 0, 3, 7, 0, 0, 48, 112, 255, 511]
theorem spec_mvBefore.tab5 : rtab .any (opsOf Try.f127 5) = spec_mvBefore.T5 := by kernel_rfl
theorem spec_mvBefore.bits5 : waitsOk spec_mvBefore.T5.2 spec_mvBefore.B5 = true := by kernel_rfl
set_option maxHeartbeats 8000000 in
set_option maxRecDepth 100000 in
theorem spec_mvBefore.calls (k : Nat) (A0 : Option Addr) (c0 : Nat) (l0 : List (S_impl_Peg)) (A1 : Option Addr) (c1 : Nat) (l1 : List (S_impl_Peg)) (r : Bool) (w : World) (hr0 : Kd.C kd_impl_Peg w A0 l0.length l0) (hc0 : l0.length ≤ c0) (hr1 : Kd.C kd_impl_Peg w A1 l1.length l1) (hc1 : l1.length ≤ c1) (h : spec_mvBefore.f k l0 l1 = some r) :
  Calls Try.prog 127 #[.slice A0 l0.length c0, .slice A1 l1.length c1] w fun e w' => e = .returned (.bool r) ∧ Below w.heap.size w w' := by
 have hu50 := Try.underlying50; have HR0 := aM hr0; have HC0 := aM hc0; clear hr0 hc0; have HR1 := aM hr1; have HC1 := aM hc1; clear hr1 hc1; have HB := aM (Below.refl w.heap.size w)
 unfold spec_mvBefore.f at h; have H := h; clear h
 have H' := aM H; clear H
 go_enter Try.func127, Try.ntmps127
 go_wp2
 go_loopg [8] k (fun kq v8 w' => ∃ (x8_1 : Int), v8 = .int .i64 x8_1 ∧ Aside0 (spec_mvBefore.l0 kq l0 l1 (l0.length : Int) x8_1 = some r) ∧ Aside0 (kq ≤ k) ∧ Aside0 (Below w.heap.size w w'))
 case atStart => exact ⟨(0), eQ, H', ⟨Nat.le_refl _⟩, ⟨bQ⟩⟩
 case round =>
  clear H'; (try clear c1); obtain ⟨x8_1, rfl, HA, HK1, HB⟩ := hrel
  cases gk with
  | zero => exact absurd HA.out (by simp [spec_mvBefore.l0])
  | succ k1 =>
   have H := HA.out; clear HA
   simp only [spec_mvBefore.l0] at H
   by_cases c3 : x8_1 < (l0.length : Int)
   ·rw [if_pos c3] at H; have c3b0 := dE c3; clear c3; replace H := iD H; obtain ⟨c4b0, H⟩ := H; replace H := iD H; obtain ⟨c5b0, H⟩ := H; replace H := iD H; obtain ⟨c6b0, H⟩ := H
    by_cases c7 : (!(((rd_impl_Peg l0 x8_1).f0) == ((rd_impl_Peg l1 x8_1).f0)) || (!(((rd_impl_Peg l0 x8_1).f1) == ((rd_impl_Peg l1 x8_1).f1)))) = true
    ·rw [if_pos c7] at H; have c7b0 := c7; clear c7; replace H := bS H; obtain ⟨t235, A8, H⟩ := H; obtain rfl := Option.some.inj H
     try go_wp2
     replace HB := aM (pD HB.out); have p231 : 0 ≤ (x8_1 : Int) := dT aQ; have q231 : x8_1 < (l0.length : Int) := dT aQ; obtain ⟨ad231, e231, hx231_0, hx231_1⟩ := at_impl_Peg HR0.out x8_1 p231 q231; have hw231_1 := hx231_1; have hw231_0 := hx231_0
     cases e231
     replace hx231_0 := hC HB hx231_0; replace hx231_1 := hC HB hx231_1; replace p231 := eq_true p231; replace q231 := eq_true q231; have p232 : 0 ≤ (x8_1 : Int) := dT aQ; have q232 : x8_1 < (l1.length : Int) := dT aQ; obtain ⟨ad232, e232, hx232_0, hx232_1⟩ := at_impl_Peg HR1.out x8_1 p232 q232; have hw232_1 := hx232_1; have hw232_0 := hx232_0
     cases e232
     replace hx232_0 := hC HB hx232_0; replace hx232_1 := hC HB hx232_1; replace p232 := eq_true p232; replace q232 := eq_true q232
     refine start_ (n := 9) (S := fun w' => w'.cell? (ad231.add ((x8_1).toNat * 2)) = some (.int .i64 ((rd_impl_Peg l0 x8_1).f0)) ∧ w'.cell? ⟨(ad231.add ((x8_1).toNat * 2)).block, (ad231.add ((x8_1).toNat * 2)).off + 1, none⟩ = some (.int .i64 ((rd_impl_Peg l0 x8_1).f1)) ∧ w'.cell? (ad232.add ((x8_1).toNat * 2)) = some (.int .i64 ((rd_impl_Peg l1 x8_1).f0)) ∧ w'.cell? ⟨(ad232.add ((x8_1).toNat * 2)).block, (ad232.add ((x8_1).toNat * 2)).off + 1, none⟩ = some (.int .i64 ((rd_impl_Peg l1 x8_1).f1))) (ds := []) (bA 9 0) kR rfl kR ⟨(hC HB hw231_0 :), (hC HB hw231_1 :), (hC HB hw232_0 :), (hC HB hw232_1 :)⟩ (fun hHeld => ?_); refine with_tabW spec_mvBefore.tab4 spec_mvBefore.bits4 (fun HT_ HW_ => ?_)
     generalize wr.drew = w9 at HB hx231_0 hx231_1 hx232_0 hx232_1 hHeld ⊢
     refine pU 0 11 (bA 9 1) HT_ ?_; refine pU 1 12 (bA 9 3) HT_ ?_; refine pU 2 13 (bA 9 7) HT_ ?_; refine pU 4 15 (bA 9 23) HT_ ?_; refine pU 5 16 (bA 9 55) HT_ ?_; refine pU 6 17 (bA 9 119) HT_ ?_
     refine tU 3 14 (bA 9 127) HT_ HW_ hHeld ?_ (hy := Or.inl ⟨by rfl, by rintro w' ⟨s0, s1, s2, s3⟩; go_simp; with_reducible rfl⟩)
     refine tU 7 18 (bA 9 255) HT_ HW_ hHeld ?_ (hy := Or.inl ⟨by rfl, by rintro w' ⟨s0, s1, s2, s3⟩; go_simp; with_reducible rfl⟩)
     refine pU 8 19 (bA 9 511) HT_ ?_
     refine done_ (done_of HT_.out kR) ?_
     try go_wp2
     replace HB := aM (pD HB.out); have p233 : 0 ≤ (x8_1 : Int) := dT aQ; have q233 : x8_1 < (l0.length : Int) := dT aQ; obtain ⟨ad233, e233, hx233_0, hx233_1⟩ := at_impl_Peg HR0.out x8_1 p233 q233; have hw233_1 := hx233_1; have hw233_0 := hx233_0; obtain rfl : ad231 = ad233 := (by injection e233)
     replace hx233_0 := hC HB hx233_0; replace hx233_1 := hC HB hx233_1; replace p233 := eq_true p233; replace q233 := eq_true q233; have p234 : 0 ≤ (x8_1 : Int) := dT aQ; have q234 : x8_1 < (l1.length : Int) := dT aQ; obtain ⟨ad234, e234, hx234_0, hx234_1⟩ := at_impl_Peg HR1.out x8_1 p234 q234; have hw234_1 := hx234_1; have hw234_0 := hx234_0; obtain rfl : ad232 = ad234 := (by injection e234)
     replace hx234_0 := hC HB hx234_0; replace hx234_1 := hC HB hx234_1; replace p234 := eq_true p234; replace q234 := eq_true q234
     refine start_ (n := 10) (S := fun w' => w'.cell? (ad231.add ((x8_1).toNat * 2)) = some (.int .i64 ((rd_impl_Peg l0 x8_1).f0)) ∧ w'.cell? ⟨(ad231.add ((x8_1).toNat * 2)).block, (ad231.add ((x8_1).toNat * 2)).off + 1, none⟩ = some (.int .i64 ((rd_impl_Peg l0 x8_1).f1)) ∧ w'.cell? (ad232.add ((x8_1).toNat * 2)) = some (.int .i64 ((rd_impl_Peg l1 x8_1).f0)) ∧ w'.cell? ⟨(ad232.add ((x8_1).toNat * 2)).block, (ad232.add ((x8_1).toNat * 2)).off + 1, none⟩ = some (.int .i64 ((rd_impl_Peg l1 x8_1).f1))) (ds := []) (bA 10 0) kR rfl kR ⟨(hC HB hw233_0 :), (hC HB hw233_1 :), (hC HB hw234_0 :), (hC HB hw234_1 :)⟩ (fun hHeld => ?_); refine with_tabW spec_mvBefore.tab5 spec_mvBefore.bits5 (fun HT_ HW_ => ?_)
     generalize w9.drew = w10 at HB hx233_0 hx233_1 hx234_0 hx234_1 hHeld ⊢
     refine pU 0 20 (bA 10 1) HT_ ?_; refine pU 1 21 (bA 10 3) HT_ ?_; refine pU 2 22 (bA 10 7) HT_ ?_; refine pU 4 24 (bA 10 23) HT_ ?_; refine pU 5 25 (bA 10 55) HT_ ?_; refine pU 6 26 (bA 10 119) HT_ ?_
     refine tU 3 23 (bA 10 127) HT_ HW_ hHeld ?_ (hy := Or.inl ⟨by rfl, by rintro w' ⟨s0, s1, s2, s3⟩; go_simp; with_reducible rfl⟩)
     refine tU 7 27 (bA 10 255) HT_ HW_ hHeld ?_ (hy := Or.inl ⟨by rfl, by rintro w' ⟨s0, s1, s2, s3⟩; go_simp; with_reducible rfl⟩)
     refine oU 8 28 (bA 10 511) HT_ (fun K hK => ?_)
     refine goes_ Try.func141 kR rfl #[.agg #[.int .i64 ((rd_impl_Peg l0 x8_1).f0), .int .i64 ((rd_impl_Peg l0 x8_1).f1)], .agg #[.int .i64 ((rd_impl_Peg l1 x8_1).f0), .int .i64 ((rd_impl_Peg l1 x8_1).f1)]] (by rfl) rfl rfl sQ ?_
     with_reducible refine (spec_pgLess.calls ((rd_impl_Peg l0 x8_1).f0) ((rd_impl_Peg l0 x8_1).f1) ((rd_impl_Peg l1 x8_1).f0) ((rd_impl_Peg l1 x8_1).f1) t235 _ A8.out).mono ?_
     rintro e w11 ⟨rfl, hb⟩; refine ⟨_, rfl, ?_⟩; replace HB := tB HB hb; (try clear hb); (try clear hb2); (try clear hk); (try clear hi)
     refine hK.out _ _ ⟨(hC HB hw233_0 :), (hC HB hw233_1 :), (hC HB hw234_0 :), (hC HB hw234_1 :)⟩ (fun hHeld => ?_)
     clear hK K
     refine nU ?_
     refine pU 9 4 (bA 10 1023) HT_ ?_
     refine done_ (done_of HT_.out kR) ?_
     try go_wp2
     go_ret
     exact ⟨wQ, bQ⟩
    ·rw [if_neg c7] at H; have c7b0 : (!(((rd_impl_Peg l0 x8_1).f0) == ((rd_impl_Peg l1 x8_1).f0)) || (!(((rd_impl_Peg l0 x8_1).f1) == ((rd_impl_Peg l1 x8_1).f1)))) = false := by simpa using c7
     clear c7; have H' := aM H; clear H
     try go_wp2
     replace HB := aM (pD HB.out); have p231 : 0 ≤ (x8_1 : Int) := dT aQ; have q231 : x8_1 < (l0.length : Int) := dT aQ; obtain ⟨ad231, e231, hx231_0, hx231_1⟩ := at_impl_Peg HR0.out x8_1 p231 q231; have hw231_1 := hx231_1; have hw231_0 := hx231_0
     cases e231
     replace hx231_0 := hC HB hx231_0; replace hx231_1 := hC HB hx231_1; replace p231 := eq_true p231; replace q231 := eq_true q231; have p232 : 0 ≤ (x8_1 : Int) := dT aQ; have q232 : x8_1 < (l1.length : Int) := dT aQ; obtain ⟨ad232, e232, hx232_0, hx232_1⟩ := at_impl_Peg HR1.out x8_1 p232 q232; have hw232_1 := hx232_1; have hw232_0 := hx232_0
     cases e232
     replace hx232_0 := hC HB hx232_0; replace hx232_1 := hC HB hx232_1; replace p232 := eq_true p232; replace q232 := eq_true q232
     refine start_ (n := 9) (S := fun w' => w'.cell? (ad231.add ((x8_1).toNat * 2)) = some (.int .i64 ((rd_impl_Peg l0 x8_1).f0)) ∧ w'.cell? ⟨(ad231.add ((x8_1).toNat * 2)).block, (ad231.add ((x8_1).toNat * 2)).off + 1, none⟩ = some (.int .i64 ((rd_impl_Peg l0 x8_1).f1)) ∧ w'.cell? (ad232.add ((x8_1).toNat * 2)) = some (.int .i64 ((rd_impl_Peg l1 x8_1).f0)) ∧ w'.cell? ⟨(ad232.add ((x8_1).toNat * 2)).block, (ad232.add ((x8_1).toNat * 2)).off + 1, none⟩ = some (.int .i64 ((rd_impl_Peg l1 x8_1).f1))) (ds := []) (bA 9 0) kR rfl kR ⟨(hC HB hw231_0 :), (hC HB hw231_1 :), (hC HB hw232_0 :), (hC HB hw232_1 :)⟩ (fun hHeld => ?_); refine with_tabW spec_mvBefore.tab4 spec_mvBefore.bits4 (fun HT_ HW_ => ?_)
     generalize wr.drew = w12 at HB hx231_0 hx231_1 hx232_0 hx232_1 hHeld ⊢
     refine pU 0 11 (bA 9 1) HT_ ?_; refine pU 1 12 (bA 9 3) HT_ ?_; refine pU 2 13 (bA 9 7) HT_ ?_; refine pU 4 15 (bA 9 23) HT_ ?_; refine pU 5 16 (bA 9 55) HT_ ?_; refine pU 6 17 (bA 9 119) HT_ ?_
     refine tU 3 14 (bA 9 127) HT_ HW_ hHeld ?_ (hy := Or.inl ⟨by rfl, by rintro w' ⟨s0, s1, s2, s3⟩; go_simp; with_reducible rfl⟩)
     refine tU 7 18 (bA 9 255) HT_ HW_ hHeld ?_ (hy := Or.inl ⟨by rfl, by rintro w' ⟨s0, s1, s2, s3⟩; go_simp; with_reducible rfl⟩)
     refine pU 8 19 (bA 9 511) HT_ ?_
     refine done_ (done_of HT_.out kR) ?_
     try go_wp2
     go_roundg k1
     case measure => have := HK1.out; omega
     case rel => exact ⟨(wrap64 (x8_1 + 1)), eQ, H', ⟨by have := HK1.out; omega⟩, ⟨bQ⟩⟩
   ·rw [if_neg c3] at H; have c3b0 := decide_eq_false c3; clear c3; obtain rfl := Option.some.inj H; go_wp2
    go_ret
    exact ⟨wQ, bQ⟩

def spec_mvKind.l0 : Nat → List (S_impl_Peg) → List (List (S_impl_Peg)) → Int → Int → Option ((List (S_impl_Peg)))
 | 0, _, _, _, _ => none
 | k + 1, x3, x7, x8, x9 => if x9 < x8 then (if 0 ≤ x9 then (if x9 < (x7.length : Int) then (if (x3.length : Int) = 0 then (spec_mvKind.l0 k (rd_L3 x7 x9) x7 x8 (wrap64 (x9 + 1))) else ((spec_mvBefore.f k (rd_L3 x7 x9) x3).bind fun t240 => (if t240 = true then (spec_mvKind.l0 k (rd_L3 x7 x9) x7 x8 (wrap64 (x9 + 1))) else (spec_mvKind.l0 k x3 x7 x8 (wrap64 (x9 + 1)))))) else (none)) else (none)) else (some x3)
def spec_mvKind.f (k : Nat) (l0 : List (S_impl_Peg)) : Option ((List (S_impl_Peg))) := (spec_mvFrames.f k l0).bind fun t236 => (spec_mvKind.l0 k ([] : List (S_impl_Peg)) t236 (t236.length : Int) 0)
theorem spec_mvKind.mono_l : ∀ k, (∀ y0 y1 y2 y3, LeO (spec_mvKind.l0 k y0 y1 y2 y3) (spec_mvKind.l0 (k + 1) y0 y1 y2 y3))
 | 0 => fun _ _ _ _ r h => by simp [spec_mvKind.l0] at h
 | k + 1 => by
  have ih0 := spec_mvKind.mono_l k
  ·intro y0 y1 y2 y3
   unfold spec_mvKind.l0
   repeat' first
   | (with_reducible exact ih0 _ _ _ _)
   | (with_reducible exact spec_mvBefore.mono _ _ _)
   | (with_reducible exact spec_mvFrames.mono _ _)
   | (with_reducible exact LeO.refl _)
   | (with_reducible exact LeO.none _)
   | (with_reducible refine LeO.ite ?_ ?_)
   | (with_reducible refine LeO.bind ?_ (fun _ => ?_))
   | exact ih0 _ _ _ _
   | exact spec_mvBefore.mono _ _ _
   | exact spec_mvFrames.mono _ _
   | exact LeO.none _
   | refine LeO.ite ?_ ?_
   | refine LeO.bind ?_ (fun _ => ?_)
theorem spec_mvKind.mono : ∀ a0 k, LeO (spec_mvKind.f k a0) (spec_mvKind.f (k + 1) a0) := by
 intro a0 k
 have ih0 := spec_mvKind.mono_l k
 unfold spec_mvKind.f
 repeat' first | (with_reducible exact ih0 _ _ _ _) | (with_reducible exact spec_mvBefore.mono _ _ _) | (with_reducible exact spec_mvFrames.mono _ _) | (with_reducible exact LeO.refl _) | (with_reducible exact LeO.none _) | (with_reducible refine LeO.ite ?_ ?_) | (with_reducible refine LeO.bind ?_ (fun _ => ?_)) | exact ih0 _ _ _ _ | exact spec_mvBefore.mono _ _ _ | exact spec_mvFrames.mono _ _ | exact LeO.none _ | refine LeO.ite ?_ ?_ | refine LeO.bind ?_ (fun _ => ?_)
set_option maxHeartbeats 8000000 in
set_option maxRecDepth 100000 in
theorem spec_mvKind.calls (k : Nat) (P0_ : Nat → Prop) (A0 : Option Addr) (c0 : Nat) (l0 : List (S_impl_Peg)) (r : List (S_impl_Peg)) (w : World) (hs0 : Kd.V kd_impl_Peg 50 w w.heap.size (fun k_ => P0_ k_) (.slice A0 l0.length c0) l0) (h : spec_mvKind.f k l0 = some r) :
  Calls Try.prog 87 #[.slice A0 l0.length c0] w fun e w' => ∃ v0_ : Value, e = .returned (v0_) ∧ Kd.V kd_impl_Peg 50 w' w.heap.size (fun k_ => (P0_ k_ ∨ w.heap.size ≤ k_)) v0_ r ∧ Below w.heap.size w w' := by
 have HO0 := aM (show Kd.V kd_impl_Peg 50 w w.heap.size (fun k_ => (P0_ k_ ∨ w.heap.size ≤ k_)) (.slice A0 l0.length c0) l0 from Kd.V_mono hs0 (fun k_ hk => .inl hk)); have HB := aM (Below.refl w.heap.size w)
 unfold spec_mvKind.f at h; have H := h; clear h
 replace H := bS H; obtain ⟨t236, A2, H⟩ := H; have H' := aM H; clear H
 go_enter Try.func87, Try.ntmps87
 go_wp2_with (first | ((with_reducible refine gC (f := 126) rfl ?_); refine goesL_ (some 7) rfl rfl Try.func126 kR rfl #[.slice A0 l0.length c0] rfl sQ ?_; (with_reducible refine (spec_mvFrames.calls k (fun k_ => (P0_ k_ ∨ w.heap.size ≤ k_)) _ _ l0 t236 _ ?side1 A2.out).mono ?_); (case side1 => exact HO0.out); rintro e w3 ⟨v237, rfl, ho0, hb⟩; refine ⟨_, rfl, ?_⟩; have HO238 := aM (Kd.N_lower (Kd.N_mono (ok' := fun k_ => (P0_ k_ ∨ w.heap.size ≤ k_)) ho0 (fun k_ hk_ => Or.elim hk_ (fun hs_ => hs_) (fun hn_ => (.inr (Nat.le_trans (pZ bQ) hn_))))) (pZ bQ)); replace HO0 := aM (Kd.V_elder' (by (with_reducible repeat (first | apply Kd.V_alloc | apply Kd.V_drewN | apply Kd.V_drew)); exact HO0.out) (Kd.N_base ho0) hb); replace HB := tB HB hb; (try clear hb); (try clear hb2); (try clear hk); (try clear hi); (try clear ho0); obtain ⟨Ao4, co4, eo4⟩ := Kd.N_slice HO238.out; subst eo4))
 go_loopg [3, 9] k (fun kq v3 v9 w' => ∃ (x3_1 : List (S_impl_Peg)) (x9_1 : Int), v9 = .int .i64 x9_1 ∧ Aside0 (spec_mvKind.l0 kq x3_1 t236 (t236.length : Int) x9_1 = some r) ∧ Aside0 (kq ≤ k) ∧ Aside0 (Kd.V kd_impl_Peg 50 w' w.heap.size (fun k_ => (P0_ k_ ∨ w.heap.size ≤ k_) ∧ some k_ ≠ ((.slice Ao4 t236.length co4) : Value).ownBlock) v3 x3_1) ∧ Aside0 (Kd.N (Kd.slice 50 kd_impl_Peg) 24 w' w.heap.size (fun k_ => (P0_ k_ ∨ w.heap.size ≤ k_)) (.slice Ao4 t236.length co4) t236) ∧ Aside0 (Below w.heap.size w w'))
 case atStart => exact ⟨(([] : List (S_impl_Peg))), (0), eQ, H', ⟨Nat.le_refl _⟩, ⟨Kd.V_nil _ _ _ _ _⟩, ⟨by (with_reducible repeat (first | apply Kd.N_alloc | apply Kd.N_drewN | apply Kd.N_drew)); exact HO238.out⟩, ⟨bQ⟩⟩
 case round =>
  clear H'; obtain ⟨x3_1, x9_1, rfl, HA, HK1, HO_3, HO_7, HB⟩ := hrel
  cases gk with
  | zero => exact absurd HA.out (by simp [spec_mvKind.l0])
  | succ k1 =>
   have H := HA.out; clear HA
   simp only [spec_mvKind.l0] at H
   by_cases c5 : x9_1 < (t236.length : Int)
   ·rw [if_pos c5] at H; have c5b0 := dE c5; clear c5; replace H := iD H; obtain ⟨c6b0, H⟩ := H; replace H := iD H; obtain ⟨c7b0, H⟩ := H
    by_cases c8 : (x3_1.length : Int) = 0
    ·rw [if_pos c8] at H; have c8b0 : ((x3_1.length : Int) == 0) = true := beq_iff_eq.mpr c8; have c8b1 : ((x3_1.length : Int) != 0) = false := bne_eq_false_iff_eq.mpr c8; clear c8; have H' := aM H; clear H; have p239 : 0 ≤ (x9_1 : Int) := dT aQ; have q239 : x9_1 < (t236.length : Int) := dT aQ; obtain ⟨ad239, A239_0, c239_0, e239, hx239_0, hl239_0, hi239_0⟩ := at_L3 (Kd.N_reads' HO_7.out).2.2 x9_1 p239 q239
     cases e239
     obtain ⟨ce239, hce239, hMe239, hcc239⟩ := Kd.N_get HO_7.out [] x9_1 p239 (by first | exact q239 | exact dT aQ | (have e_ := (Kd.N_reads' HO_7.out).1; omega))
     obtain ⟨ua239_0, uc239_0, rfl, ul239_0, ge239_0⟩ := Kd.FK_slice_open hMe239; have hv239_0 := hcc239 0 _ rfl; rw [Nat.add_zero, show ((Kd.slice 50 kd_impl_Peg)).sz = 1 from rfl, Nat.mul_one] at hv239_0; replace hv239_0 := Option.some.inj (hv239_0.symm.trans hx239_0)
     injection hv239_0 with hva_ hvn_ hvc_
     rw [hva_] at ge239_0; rw [hvc_] at ul239_0; have HL239_0 := aM (show Kd.V kd_impl_Peg 50 _ w.heap.size _ _ (rd_L3 t236 x9_1) from Kd.V_mk ul239_0 ge239_0); clear hva_ hvn_ hvc_ ge239_0 ul239_0; clear hcc239 hce239; have HR239_0 := aM hi239_0; have HC239_0 := aM hl239_0; clear hi239_0 hl239_0; replace p239 := eq_true p239; replace q239 := eq_true q239; obtain ⟨Ao9, co9, eo9⟩ := Kd.V_slice HO_3.out; subst eo9; go_wp2
     go_roundg k1
     case measure => have := HK1.out; omega
     case rel => exact ⟨(rd_L3 t236 x9_1), (wrap64 (x9_1 + 1)), eQ, H', ⟨by have := HK1.out; omega⟩, ⟨by (with_reducible repeat (first | apply Kd.V_alloc | apply Kd.V_drewN | apply Kd.V_drew)); exact HL239_0.out⟩, ⟨by (with_reducible repeat (first | apply Kd.N_alloc | apply Kd.N_drewN | apply Kd.N_drew)); exact HO_7.out⟩, ⟨bQ⟩⟩
    ·rw [if_neg c8] at H; have c8b0 : ((x3_1.length : Int) == 0) = false := beq_eq_false_iff_ne.mpr c8; have c8b1 : ((x3_1.length : Int) != 0) = true := bne_iff_ne.mpr c8; have c8b2 : ¬ (x3_1 = []) := fun h_ => c8 (by rw [h_]; rfl)
     replace H := bS H; obtain ⟨t240, A10, H⟩ := H
     by_cases c11 : t240 = true
     ·subst c11; replace H := iT H; have H' := aM H; clear H; have p239 : 0 ≤ (x9_1 : Int) := dT aQ; have q239 : x9_1 < (t236.length : Int) := dT aQ; obtain ⟨ad239, A239_0, c239_0, e239, hx239_0, hl239_0, hi239_0⟩ := at_L3 (Kd.N_reads' HO_7.out).2.2 x9_1 p239 q239
      cases e239
      obtain ⟨ce239, hce239, hMe239, hcc239⟩ := Kd.N_get HO_7.out [] x9_1 p239 (by first | exact q239 | exact dT aQ | (have e_ := (Kd.N_reads' HO_7.out).1; omega))
      obtain ⟨ua239_0, uc239_0, rfl, ul239_0, ge239_0⟩ := Kd.FK_slice_open hMe239; have hv239_0 := hcc239 0 _ rfl; rw [Nat.add_zero, show ((Kd.slice 50 kd_impl_Peg)).sz = 1 from rfl, Nat.mul_one] at hv239_0; replace hv239_0 := Option.some.inj (hv239_0.symm.trans hx239_0)
      injection hv239_0 with hva_ hvn_ hvc_
      rw [hva_] at ge239_0; rw [hvc_] at ul239_0; have HL239_0 := aM (show Kd.V kd_impl_Peg 50 _ w.heap.size _ _ (rd_L3 t236 x9_1) from Kd.V_mk ul239_0 ge239_0); clear hva_ hvn_ hvc_ ge239_0 ul239_0; clear hcc239 hce239; have HR239_0 := aM hi239_0; have HC239_0 := aM hl239_0; clear hi239_0 hl239_0; replace p239 := eq_true p239; replace q239 := eq_true q239; obtain ⟨Ao12, co12, eo12⟩ := Kd.V_slice HO_3.out; subst eo12
      go_wp2_with (first | (go_at_call 127; (with_reducible refine (spec_mvBefore.calls k1 _ _ (rd_L3 t236 x9_1) _ _ x3_1 true _ ?side1 ?side2 ?side3 ?side4 A10.out).mono ?_); (case side1 => repeat (first | exact (by repeat (first | (with_reducible exact HR239_0.out) | (with_reducible refine cA ?_ _) | (with_reducible refine cN ?_ _) | (with_reducible refine cD ?_) | exact HR239_0.out)) | (with_reducible refine cA ?_ _) | (with_reducible refine cN ?_ _) | (with_reducible refine cD ?_))); (case side2 => exact HC239_0.out); (case side3 => repeat (first | exact (Kd.V_reads' HO_3.out).2.2 | (with_reducible refine cA ?_ _) | (with_reducible refine cN ?_ _) | (with_reducible refine cD ?_))); (case side4 => exact (Kd.V_reads' HO_3.out).2.1); rintro e w13 ⟨rfl, hb⟩; replace HO_3 := aM (Kd.V_below (by (with_reducible repeat (first | apply Kd.V_alloc | apply Kd.V_drewN | apply Kd.V_drew)); exact HO_3.out) hb); replace HO_7 := aM (Kd.N_below (by (with_reducible repeat (first | apply Kd.N_alloc | apply Kd.N_drewN | apply Kd.N_drew)); exact HO_7.out) hb); replace HL239_0 := aM (Kd.V_below (by (with_reducible repeat (first | apply Kd.V_alloc | apply Kd.V_drewN | apply Kd.V_drew)); exact HL239_0.out) hb); replace HR239_0 := aM (Kd.C_below (by repeat (first | (with_reducible exact HR239_0.out) | (with_reducible refine cA ?_ _) | (with_reducible refine cN ?_ _) | (with_reducible refine cD ?_) | exact HR239_0.out)) hb); replace HB := tB HB hb; (try clear hb); (try clear hb2); (try clear hk); (try clear hi)))
      go_roundg k1
      case measure => have := HK1.out; omega
      case rel => exact ⟨(rd_L3 t236 x9_1), (wrap64 (x9_1 + 1)), eQ, H', ⟨by have := HK1.out; omega⟩, ⟨by (with_reducible repeat (first | apply Kd.V_alloc | apply Kd.V_drewN | apply Kd.V_drew)); exact HL239_0.out⟩, ⟨by (with_reducible repeat (first | apply Kd.N_alloc | apply Kd.N_drewN | apply Kd.N_drew)); exact HO_7.out⟩, ⟨bQ⟩⟩
     ·replace c11 := Bool.eq_false_iff.mpr c11; subst c11; replace H := iF H; have H' := aM H; clear H; have p239 : 0 ≤ (x9_1 : Int) := dT aQ; have q239 : x9_1 < (t236.length : Int) := dT aQ; obtain ⟨ad239, A239_0, c239_0, e239, hx239_0, hl239_0, hi239_0⟩ := at_L3 (Kd.N_reads' HO_7.out).2.2 x9_1 p239 q239
      cases e239
      obtain ⟨ce239, hce239, hMe239, hcc239⟩ := Kd.N_get HO_7.out [] x9_1 p239 (by first | exact q239 | exact dT aQ | (have e_ := (Kd.N_reads' HO_7.out).1; omega))
      obtain ⟨ua239_0, uc239_0, rfl, ul239_0, ge239_0⟩ := Kd.FK_slice_open hMe239; have hv239_0 := hcc239 0 _ rfl; rw [Nat.add_zero, show ((Kd.slice 50 kd_impl_Peg)).sz = 1 from rfl, Nat.mul_one] at hv239_0; replace hv239_0 := Option.some.inj (hv239_0.symm.trans hx239_0)
      injection hv239_0 with hva_ hvn_ hvc_
      rw [hva_] at ge239_0; rw [hvc_] at ul239_0; have HL239_0 := aM (show Kd.V kd_impl_Peg 50 _ w.heap.size _ _ (rd_L3 t236 x9_1) from Kd.V_mk ul239_0 ge239_0); clear hva_ hvn_ hvc_ ge239_0 ul239_0; clear hcc239 hce239; have HR239_0 := aM hi239_0; have HC239_0 := aM hl239_0; clear hi239_0 hl239_0; replace p239 := eq_true p239; replace q239 := eq_true q239; obtain ⟨Ao14, co14, eo14⟩ := Kd.V_slice HO_3.out; subst eo14
      go_wp2_with (first | (go_at_call 127; (with_reducible refine (spec_mvBefore.calls k1 _ _ (rd_L3 t236 x9_1) _ _ x3_1 false _ ?side1 ?side2 ?side3 ?side4 A10.out).mono ?_); (case side1 => repeat (first | exact (by repeat (first | (with_reducible exact HR239_0.out) | (with_reducible refine cA ?_ _) | (with_reducible refine cN ?_ _) | (with_reducible refine cD ?_) | exact HR239_0.out)) | (with_reducible refine cA ?_ _) | (with_reducible refine cN ?_ _) | (with_reducible refine cD ?_))); (case side2 => exact HC239_0.out); (case side3 => repeat (first | exact (Kd.V_reads' HO_3.out).2.2 | (with_reducible refine cA ?_ _) | (with_reducible refine cN ?_ _) | (with_reducible refine cD ?_))); (case side4 => exact (Kd.V_reads' HO_3.out).2.1); rintro e w15 ⟨rfl, hb⟩; replace HO_3 := aM (Kd.V_below (by (with_reducible repeat (first | apply Kd.V_alloc | apply Kd.V_drewN | apply Kd.V_drew)); exact HO_3.out) hb); replace HO_7 := aM (Kd.N_below (by (with_reducible repeat (first | apply Kd.N_alloc | apply Kd.N_drewN | apply Kd.N_drew)); exact HO_7.out) hb); replace HL239_0 := aM (Kd.V_below (by (with_reducible repeat (first | apply Kd.V_alloc | apply Kd.V_drewN | apply Kd.V_drew)); exact HL239_0.out) hb); replace HR239_0 := aM (Kd.C_below (by repeat (first | (with_reducible exact HR239_0.out) | (with_reducible refine cA ?_ _) | (with_reducible refine cN ?_ _) | (with_reducible refine cD ?_) | exact HR239_0.out)) hb); replace HB := tB HB hb; (try clear hb); (try clear hb2); (try clear hk); (try clear hi)))
      go_roundg k1
      case measure => have := HK1.out; omega
      case rel => exact ⟨(x3_1), (wrap64 (x9_1 + 1)), eQ, H', ⟨by have := HK1.out; omega⟩, ⟨by (with_reducible repeat (first | apply Kd.V_alloc | apply Kd.V_drewN | apply Kd.V_drew)); exact HO_3.out⟩, ⟨by (with_reducible repeat (first | apply Kd.N_alloc | apply Kd.N_drewN | apply Kd.N_drew)); exact HO_7.out⟩, ⟨bQ⟩⟩
   ·rw [if_neg c5] at H; have c5b0 := decide_eq_false c5; clear c5; obtain rfl := Option.some.inj H; go_wp2
    go_ret
    exact ⟨_, by first | rfl | (simp [errW_none, errW_some] <;> rfl) | (simp [*, errW_none, errW_some] <;> rfl), by (with_reducible repeat (first | apply Kd.V_alloc | apply Kd.V_drewN | apply Kd.V_drew)); exact Kd.V_mono HO_3.out (fun _ hk => hk.1), bQ⟩

end Go.Proofs.Ytfihohongkfibaa.X
