-- thin
-- short
-- compact
import Derived.Test.YtklhakfmegbobaaXA
import Derived.Test.YtklhakfmegbobaaX0
import Derived.Test.YtklhakfmegbobaaX2
import Derived.Test.YtklhakfmegbobaaX3
import Derived.Test.YtklhakfmegbobaaX7
namespace Go.Proofs.Ytklhakfmegbobaa.X
open Go.RowKit Go.Proofs.Ytklhakfmegbobaa.XW Go.Proofs.YtklhakfmegbobaaW.PrintWords Go.Proofs.YtklhakfmegbobaaW.PrintLast Go.Proofs.YtklhakfmegbobaaW.PrintMore
attribute [local go_sem] max2_int min2_int max_two min_two max_three min_three max_four min_four   -- for this text's walks alone
set_option linter.unusedVariables false
set_option linter.unusedSimpArgs false

def spec_pgConvex.l0 : Nat → List (S_impl_Peg) → Int → Int → List (S_impl_Peg) → Int → Int → Option (Bool)
 | 0, _, _, _, _, _, _ => none
 | k + 1, x0, x3, x4, x12, x13, x14 => if x14 < x13 then (if 0 ≤ x14 then (if x14 < (x12.length : Int) then (if x3 = 0 then (none) else (if 0 ≤ (Int.tmod (wrap64 (x14 + 1)) x3) then (if (Int.tmod (wrap64 (x14 + 1)) x3) < (x0.length : Int) then (if 0 ≤ (Int.tmod (wrap64 (x14 + 2)) x3) then (if (Int.tmod (wrap64 (x14 + 2)) x3) < (x0.length : Int) then ((spec_pgTurn.f ((rd_impl_Peg x12 x14).f0) ((rd_impl_Peg x12 x14).f1) ((rd_impl_Peg x0 (Int.tmod (wrap64 (x14 + 1)) x3)).f0) ((rd_impl_Peg x0 (Int.tmod (wrap64 (x14 + 1)) x3)).f1) ((rd_impl_Peg x0 (Int.tmod (wrap64 (x14 + 2)) x3)).f0) ((rd_impl_Peg x0 (Int.tmod (wrap64 (x14 + 2)) x3)).f1)).bind fun t180 => ((spec_l1Sign.f t180).bind fun t181 => (if t181 = x4 then (spec_pgConvex.l0 k x0 x3 x4 x12 x13 (wrap64 (x14 + 1))) else (some false)))) else (none)) else (none)) else (none)) else (none))) else (none)) else (none)) else (some true)
def spec_pgConvex.f (k : Nat) (l0 : List (S_impl_Peg)) : Option (Bool) := (spec_pgArea.f k l0).bind fun t174 => ((spec_l1Sign.f t174).bind fun t175 => (spec_pgConvex.l0 k l0 (l0.length : Int) t175 l0 (l0.length : Int) 0))
theorem spec_pgConvex.mono_l : ∀ k, (∀ y0 y1 y2 y3 y4 y5, LeO (spec_pgConvex.l0 k y0 y1 y2 y3 y4 y5) (spec_pgConvex.l0 (k + 1) y0 y1 y2 y3 y4 y5))
 | 0 => fun _ _ _ _ _ _ r h => by simp [spec_pgConvex.l0] at h
 | k + 1 => by
  have ih0 := spec_pgConvex.mono_l k
  ·intro y0 y1 y2 y3 y4 y5
   unfold spec_pgConvex.l0
   repeat' first
   | (with_reducible exact ih0 _ _ _ _ _ _)
   | (with_reducible exact spec_pgArea.mono _ _)
   | (with_reducible exact LeO.refl _)
   | (with_reducible exact LeO.none _)
   | (with_reducible refine LeO.ite ?_ ?_)
   | (with_reducible refine LeO.bind ?_ (fun _ => ?_))
   | exact ih0 _ _ _ _ _ _
   | exact spec_pgArea.mono _ _
   | exact LeO.none _
   | refine LeO.ite ?_ ?_
   | refine LeO.bind ?_ (fun _ => ?_)
theorem spec_pgConvex.mono : ∀ a0 k, LeO (spec_pgConvex.f k a0) (spec_pgConvex.f (k + 1) a0) := by
 intro a0 k
 have ih0 := spec_pgConvex.mono_l k
 unfold spec_pgConvex.f
 repeat' first | (with_reducible exact ih0 _ _ _ _ _ _) | (with_reducible exact spec_pgArea.mono _ _) | (with_reducible exact LeO.refl _) | (with_reducible exact LeO.none _) | (with_reducible refine LeO.ite ?_ ?_) | (with_reducible refine LeO.bind ?_ (fun _ => ?_)) | exact ih0 _ _ _ _ _ _ | exact spec_pgArea.mono _ _ | exact LeO.none _ | refine LeO.ite ?_ ?_ | refine LeO.bind ?_ (fun _ => ?_)
def spec_pgConvex.T6 : Bool × List (List Nat × List Nat) := (true, [([], []), ([], []), ([], []), ([2], [2]), ([], []), ([3, 4], [3, 4]), ([1, 5], [1, 5]), ([6], [6]), ([], []), ([], []), ([9], [9]), ([], []), ([10, 11], [10, 11]), ([8, 12], [8, 12]), ([13], [13]), ([0, 7, 14], [0, 7, 14]), ([15, 15], [15]), ([], []), ([16, 17], [16, 17])])
def spec_pgConvex.B6 : List Nat := [0, 0, 0, 4, 0, 28, 62, 126, 0, 0, 512, 0, 3584, 7936, 16128, 32767, 65535, 0, 262143]
theorem spec_pgConvex.tab6 : rtab .any (opsOf Try.f113 6) = spec_pgConvex.T6 := by kernel_rfl
theorem spec_pgConvex.bits6 : waitsOk spec_pgConvex.T6.2 spec_pgConvex.B6 = true := by kernel_rfl
set_option maxHeartbeats 8000000 in
set_option maxRecDepth 100000 in
theorem spec_pgConvex.calls (k : Nat) (A0 : Option Addr) (c0 : Nat) (l0 : List (S_impl_Peg)) (r : Bool) (w : World) (hr0 : Kd.C kd_impl_Peg w A0 l0.length l0) (hc0 : l0.length ≤ c0) (h : spec_pgConvex.f k l0 = some r) :
  Calls Try.prog 113 #[.slice A0 l0.length c0] w fun e w' => e = .returned (.bool r) ∧ Below w.heap.size w w' := by
 have hu26 := Try.underlying26; have HR0 := aM hr0; have HC0 := aM hc0; clear hr0 hc0; have HB := aM (Below.refl w.heap.size w)
 unfold spec_pgConvex.f at h; have H := h; clear h
 replace H := bS H; obtain ⟨t174, A2, H⟩ := H; replace H := bS H; obtain ⟨t175, A3, H⟩ := H; have H' := aM H; clear H
 go_enter Try.func113, Try.ntmps113
 go_wp2_with (first | ((with_reducible refine gC (f := 56) rfl ?_); refine goesL_ (some 10) rfl rfl Try.func56 kR rfl #[.slice A0 l0.length c0] rfl sQ ?_; (with_reducible refine (spec_pgArea.calls k _ _ l0 t174 _ ?side1 ?side2 A2.out).mono ?_); (case side1 => repeat (first | exact HR0.out | (with_reducible refine cA ?_ _) | (with_reducible refine cN ?_ _) | (with_reducible refine cD ?_))); (case side2 => exact HC0.out); rintro e w4 ⟨rfl, hb⟩; refine ⟨_, rfl, ?_⟩; replace HB := tB HB hb; (try clear hb); (try clear hb2); (try clear hk); (try clear hi)) | ((with_reducible refine gC (f := 136) rfl ?_); refine goesL_ (some 11) rfl rfl Try.func136 kR rfl #[.int .i64 t174] rfl sQ ?_; (with_reducible refine (spec_l1Sign.calls t174 t175 _ A3.out).mono ?_); rintro e w' ⟨rfl, ⟨nd, rfl⟩⟩; refine ⟨_, rfl, ?_⟩))
 go_loopg [14] k (fun kq v14 w' => ∃ (x14_1 : Int), v14 = .int .i64 x14_1 ∧ Aside0 (spec_pgConvex.l0 kq l0 (l0.length : Int) t175 l0 (l0.length : Int) x14_1 = some r) ∧ Aside0 (kq ≤ k) ∧ Aside0 (Below w.heap.size w w'))
 case atStart => exact ⟨(0), eQ, H', ⟨Nat.le_refl _⟩, ⟨bQ⟩⟩
 case round =>
  clear H'; obtain ⟨x14_1, rfl, HA, HK1, HB⟩ := hrel
  cases gk with
  | zero => exact absurd HA.out (by simp [spec_pgConvex.l0])
  | succ k1 =>
   have H := HA.out; clear HA
   simp only [spec_pgConvex.l0] at H
   by_cases c5 : x14_1 < (l0.length : Int)
   ·rw [if_pos c5] at H; have c5b0 := dE c5; clear c5; replace H := iD H; obtain ⟨c6b0, H⟩ := H; replace H := iD H; obtain ⟨c7b0, H⟩ := H; replace H := iM H; obtain ⟨c8, H⟩ := H; have c8b0 : ((l0.length : Int) == 0) = false := beq_eq_false_iff_ne.mpr c8; have c8b1 : ((l0.length : Int) != 0) = true := bne_iff_ne.mpr c8; have c8b2 : ¬ (l0 = []) := fun h_ => c8 (by rw [h_]; rfl)
    obtain ⟨ji9, hji9⟩ : ∃ j_ : Int, (Int.tmod (wrap64 (x14_1 + 1)) (l0.length : Int)) = j_ := ⟨_, rfl⟩
    (first | rw [hji9] at H | simp only [hji9] at H)
    replace H := iD H; obtain ⟨c10b0, H⟩ := H; replace H := iD H; obtain ⟨c11b0, H⟩ := H; obtain ⟨ji12, hji12⟩ : ∃ j_ : Int, (Int.tmod (wrap64 (x14_1 + 2)) (l0.length : Int)) = j_ := ⟨_, rfl⟩
    (first | rw [hji12] at H | simp only [hji12] at H)
    replace H := iD H; obtain ⟨c13b0, H⟩ := H; replace H := iD H; obtain ⟨c14b0, H⟩ := H; replace H := bS H; obtain ⟨t180, A15, H⟩ := H; replace H := bS H; obtain ⟨t181, A16, H⟩ := H
    by_cases c17 : t181 = t175
    ·rw [if_pos c17] at H; have c17b0 : (t181 == t175) = true := beq_iff_eq.mpr c17; have c17b1 : (t181 != t175) = false := bne_eq_false_iff_eq.mpr c17; clear c17; have H' := aM H; clear H; have p176 : 0 ≤ (x14_1 : Int) := dT aQ; have q176 : x14_1 < (l0.length : Int) := dT aQ; obtain ⟨ad176, e176, hx176_0, hx176_1⟩ := at_impl_Peg HR0.out x14_1 p176 q176
     cases e176
     replace hx176_0 := hC HB hx176_0; replace hx176_1 := hC HB hx176_1; replace p176 := eq_true p176; replace q176 := eq_true q176
     try go_wp2_with (first | ((with_reducible refine gate_dst (N := 6) rfl ?_); refine bV 6 (cs := #[.int .i64 0, .int .i64 0]) (t := 26) rfl rfl (by first | (go_simp; done) | (go_simp; rfl)) ?_; intro gb177 hg w18 hbox hb; have BK177 := hbox; have GW177 := gZ HB hg; have GE177 := gZ HB hg; replace HB := tB HB hb; clear hb hbox hg; have hcz19_0 := vZ0 BK177; have hcz19_1 := vZ1 BK177; have hfz19_0 := kF BK177.out 0; have hfz19_1 := kF BK177.out 1))
     have n0_ : Aside0 (((w18.setCell ⟨gb177, 0, none⟩ (.int .i64 ((rd_impl_Peg l0 x14_1).f0))).setCell ⟨gb177, 1, none⟩ (.int .i64 ((rd_impl_Peg l0 x14_1).f1))).heap[gb177]? = some (.cells #[.int .i64 ((rd_impl_Peg l0 x14_1).f0), .int .i64 ((rd_impl_Peg l0 x14_1).f1)] 26 (0, 0))) := ⟨fQ BK177⟩; have n1_ : Aside0 (Below w.heap.size w ((w18.setCell ⟨gb177, 0, none⟩ (.int .i64 ((rd_impl_Peg l0 x14_1).f0))).setCell ⟨gb177, 1, none⟩ (.int .i64 ((rd_impl_Peg l0 x14_1).f1)))) := ⟨bE⟩; (try clear BK177); (try clear HB)
     generalize ((w18.setCell ⟨gb177, 0, none⟩ (.int .i64 ((rd_impl_Peg l0 x14_1).f0))).setCell ⟨gb177, 1, none⟩ (.int .i64 ((rd_impl_Peg l0 x14_1).f1))) = w20 at n0_ n1_ ⊢
     have BK177 := n0_; have HB := n1_; clear n0_ n1_; replace BK177 := aM (kD BK177.out); replace HB := aM (pD HB.out); have p178 : 0 ≤ ((ji9) : Int) := dT aQ; have q178 : (ji9) < (l0.length : Int) := dT aQ; obtain ⟨ad178, e178, hx178_0, hx178_1⟩ := at_impl_Peg HR0.out (ji9) p178 q178; have hw178_1 := hx178_1; have hw178_0 := hx178_0; obtain rfl : ad176 = ad178 := (by injection e178)
     replace hx178_0 := hC HB hx178_0; replace hx178_1 := hC HB hx178_1; replace p178 := eq_true p178; replace q178 := eq_true q178; have p179 : 0 ≤ ((ji12) : Int) := dT aQ; have q179 : (ji12) < (l0.length : Int) := dT aQ; obtain ⟨ad179, e179, hx179_0, hx179_1⟩ := at_impl_Peg HR0.out (ji12) p179 q179; have hw179_1 := hx179_1; have hw179_0 := hx179_0; obtain rfl : ad176 = ad179 := (by injection e179)
     replace hx179_0 := hC HB hx179_0; replace hx179_1 := hC HB hx179_1; replace p179 := eq_true p179; replace q179 := eq_true q179
     refine start_ (n := 19) (S := fun w' => w'.cell? ⟨gb177, 0, none⟩ = some (.int .i64 ((rd_impl_Peg l0 x14_1).f0)) ∧ w'.cell? ⟨gb177, 1, none⟩ = some (.int .i64 ((rd_impl_Peg l0 x14_1).f1)) ∧ w'.cell? (ad176.add (((ji9)).toNat * 2)) = some (.int .i64 ((rd_impl_Peg l0 (ji9)).f0)) ∧ w'.cell? ⟨(ad176.add (((ji9)).toNat * 2)).block, (ad176.add (((ji9)).toNat * 2)).off + 1, none⟩ = some (.int .i64 ((rd_impl_Peg l0 (ji9)).f1)) ∧ w'.cell? (ad176.add (((ji12)).toNat * 2)) = some (.int .i64 ((rd_impl_Peg l0 (ji12)).f0)) ∧ w'.cell? ⟨(ad176.add (((ji12)).toNat * 2)).block, (ad176.add (((ji12)).toNat * 2)).off + 1, none⟩ = some (.int .i64 ((rd_impl_Peg l0 (ji12)).f1))) (ds := []) (bA 19 0) kR rfl kR ⟨vZ0 BK177, vZ1 BK177, (hC HB hw178_0 :), (hC HB hw178_1 :), (hC HB hw179_0 :), (hC HB hw179_1 :)⟩ (fun hHeld => ?_); refine with_tabW spec_pgConvex.tab6 spec_pgConvex.bits6 (fun HT_ HW_ => ?_)
     generalize w20.drew = w21 at BK177 HB hx178_0 hx178_1 hx179_0 hx179_1 hHeld ⊢
     refine pU 1 20 (bA 19 2) HT_ ?_; refine pU 2 21 (bA 19 6) HT_ ?_; refine pU 3 22 (bA 19 14) HT_ ?_; refine pU 4 23 (bA 19 30) HT_ ?_; refine pU 5 24 (bA 19 62) HT_ ?_; refine pU 6 25 (bA 19 126) HT_ ?_; refine pU 8 27 (bA 19 382) HT_ ?_; refine pU 9 28 (bA 19 894) HT_ ?_; refine pU 10 29 (bA 19 1918) HT_ ?_; refine pU 11 30 (bA 19 3966) HT_ ?_; refine pU 12 31 (bA 19 8062) HT_ ?_; refine pU 13 32 (bA 19 16254) HT_ ?_; refine pU 17 36 (bA 19 147326) HT_ ?_
     refine tU 0 19 (bA 19 147327) HT_ HW_ hHeld ?_ (hy := Or.inl ⟨by rfl, by rintro w' ⟨s0, s1, s2, s3, s4, s5⟩; go_simp; with_reducible rfl⟩)
     refine tU 7 26 (bA 19 147455) HT_ HW_ hHeld ?_ (hy := Or.inl ⟨by rfl, by rintro w' ⟨s0, s1, s2, s3, s4, s5⟩; go_simp; with_reducible rfl⟩)
     refine tU 14 33 (bA 19 163839) HT_ HW_ hHeld ?_ (hy := Or.inl ⟨by rfl, by rintro w' ⟨s0, s1, s2, s3, s4, s5⟩; go_simp; with_reducible rfl⟩)
     refine oU 15 34 (bA 19 196607) HT_ (fun K hK => ?_)
     refine goes_ Try.func106 kR rfl #[.agg #[.int .i64 ((rd_impl_Peg l0 x14_1).f0), .int .i64 ((rd_impl_Peg l0 x14_1).f1)], .agg #[.int .i64 ((rd_impl_Peg l0 (ji9)).f0), .int .i64 ((rd_impl_Peg l0 (ji9)).f1)], .agg #[.int .i64 ((rd_impl_Peg l0 (ji12)).f0), .int .i64 ((rd_impl_Peg l0 (ji12)).f1)]] (by rfl) rfl rfl (by (try simp only [mA, mC, mN]); first | done | (simp only [hji12, hji9]; rfl) | rfl | (simp only [lD, lT]; rfl)) ?_
     with_reducible refine (spec_pgTurn.calls ((rd_impl_Peg l0 x14_1).f0) ((rd_impl_Peg l0 x14_1).f1) ((rd_impl_Peg l0 (ji9)).f0) ((rd_impl_Peg l0 (ji9)).f1) ((rd_impl_Peg l0 (ji12)).f0) ((rd_impl_Peg l0 (ji12)).f1) t180 _ A15.out).mono ?_
     rintro e w22 ⟨rfl, hb⟩; refine ⟨_, rfl, ?_⟩; replace BK177 := bB BK177 hb; replace HB := tB HB hb; (try clear hb); (try clear hb2); (try clear hk); (try clear hi)
     refine hK.out _ _ ⟨vZ0 BK177, vZ1 BK177, (hC HB hw178_0 :), (hC HB hw178_1 :), (hC HB hw179_0 :), (hC HB hw179_1 :)⟩ (fun hHeld => ?_)
     clear hK K
     refine nU ?_
     refine oU 16 35 (bA 19 262143) HT_ (fun K hK => ?_)
     refine goes_ Try.func136 kR rfl #[.int .i64 t180] (by rfl) rfl rfl sQ ?_
     with_reducible refine (spec_l1Sign.calls t180 t181 _ A16.out).mono ?_
     rintro e w' ⟨rfl, ⟨nd, rfl⟩⟩; refine ⟨_, rfl, ?_⟩
     refine hK.out _ _ ⟨vZ0 BK177, vZ1 BK177, (hC HB hw178_0 :), (hC HB hw178_1 :), (hC HB hw179_0 :), (hC HB hw179_1 :)⟩ (fun hHeld => ?_)
     clear hK K
     refine nU ?_
     refine pU 18 37 (bA 19 524287) HT_ ?_
     refine done_ (done_of HT_.out kR) ?_
     try go_wp2
     go_roundg k1
     case measure => have := HK1.out; omega
     case rel => exact ⟨(wrap64 (x14_1 + 1)), eQ, H', ⟨by have := HK1.out; omega⟩, ⟨bE⟩⟩
    ·rw [if_neg c17] at H; have c17b0 : (t181 == t175) = false := beq_eq_false_iff_ne.mpr c17; have c17b1 : (t181 != t175) = true := bne_iff_ne.mpr c17; obtain rfl := Option.some.inj H; have p176 : 0 ≤ (x14_1 : Int) := dT aQ; have q176 : x14_1 < (l0.length : Int) := dT aQ; obtain ⟨ad176, e176, hx176_0, hx176_1⟩ := at_impl_Peg HR0.out x14_1 p176 q176
     cases e176
     replace hx176_0 := hC HB hx176_0; replace hx176_1 := hC HB hx176_1; replace p176 := eq_true p176; replace q176 := eq_true q176
     try go_wp2_with (first | ((with_reducible refine gate_dst (N := 6) rfl ?_); refine bV 6 (cs := #[.int .i64 0, .int .i64 0]) (t := 26) rfl rfl (by first | (go_simp; done) | (go_simp; rfl)) ?_; intro gb177 hg w23 hbox hb; have BK177 := hbox; have GW177 := gZ HB hg; have GE177 := gZ HB hg; replace HB := tB HB hb; clear hb hbox hg; have hcz24_0 := vZ0 BK177; have hcz24_1 := vZ1 BK177; have hfz24_0 := kF BK177.out 0; have hfz24_1 := kF BK177.out 1))
     have n0_ : Aside0 (((w23.setCell ⟨gb177, 0, none⟩ (.int .i64 ((rd_impl_Peg l0 x14_1).f0))).setCell ⟨gb177, 1, none⟩ (.int .i64 ((rd_impl_Peg l0 x14_1).f1))).heap[gb177]? = some (.cells #[.int .i64 ((rd_impl_Peg l0 x14_1).f0), .int .i64 ((rd_impl_Peg l0 x14_1).f1)] 26 (0, 0))) := ⟨fQ BK177⟩; have n1_ : Aside0 (Below w.heap.size w ((w23.setCell ⟨gb177, 0, none⟩ (.int .i64 ((rd_impl_Peg l0 x14_1).f0))).setCell ⟨gb177, 1, none⟩ (.int .i64 ((rd_impl_Peg l0 x14_1).f1)))) := ⟨bE⟩; (try clear BK177); (try clear HB)
     generalize ((w23.setCell ⟨gb177, 0, none⟩ (.int .i64 ((rd_impl_Peg l0 x14_1).f0))).setCell ⟨gb177, 1, none⟩ (.int .i64 ((rd_impl_Peg l0 x14_1).f1))) = w25 at n0_ n1_ ⊢
     have BK177 := n0_; have HB := n1_; clear n0_ n1_; replace BK177 := aM (kD BK177.out); replace HB := aM (pD HB.out); have p178 : 0 ≤ ((ji9) : Int) := dT aQ; have q178 : (ji9) < (l0.length : Int) := dT aQ; obtain ⟨ad178, e178, hx178_0, hx178_1⟩ := at_impl_Peg HR0.out (ji9) p178 q178; have hw178_1 := hx178_1; have hw178_0 := hx178_0; obtain rfl : ad176 = ad178 := (by injection e178)
     replace hx178_0 := hC HB hx178_0; replace hx178_1 := hC HB hx178_1; replace p178 := eq_true p178; replace q178 := eq_true q178; have p179 : 0 ≤ ((ji12) : Int) := dT aQ; have q179 : (ji12) < (l0.length : Int) := dT aQ; obtain ⟨ad179, e179, hx179_0, hx179_1⟩ := at_impl_Peg HR0.out (ji12) p179 q179; have hw179_1 := hx179_1; have hw179_0 := hx179_0; obtain rfl : ad176 = ad179 := (by injection e179)
     replace hx179_0 := hC HB hx179_0; replace hx179_1 := hC HB hx179_1; replace p179 := eq_true p179; replace q179 := eq_true q179
     refine start_ (n := 19) (S := fun w' => w'.cell? ⟨gb177, 0, none⟩ = some (.int .i64 ((rd_impl_Peg l0 x14_1).f0)) ∧ w'.cell? ⟨gb177, 1, none⟩ = some (.int .i64 ((rd_impl_Peg l0 x14_1).f1)) ∧ w'.cell? (ad176.add (((ji9)).toNat * 2)) = some (.int .i64 ((rd_impl_Peg l0 (ji9)).f0)) ∧ w'.cell? ⟨(ad176.add (((ji9)).toNat * 2)).block, (ad176.add (((ji9)).toNat * 2)).off + 1, none⟩ = some (.int .i64 ((rd_impl_Peg l0 (ji9)).f1)) ∧ w'.cell? (ad176.add (((ji12)).toNat * 2)) = some (.int .i64 ((rd_impl_Peg l0 (ji12)).f0)) ∧ w'.cell? ⟨(ad176.add (((ji12)).toNat * 2)).block, (ad176.add (((ji12)).toNat * 2)).off + 1, none⟩ = some (.int .i64 ((rd_impl_Peg l0 (ji12)).f1))) (ds := []) (bA 19 0) kR rfl kR ⟨vZ0 BK177, vZ1 BK177, (hC HB hw178_0 :), (hC HB hw178_1 :), (hC HB hw179_0 :), (hC HB hw179_1 :)⟩ (fun hHeld => ?_); refine with_tabW spec_pgConvex.tab6 spec_pgConvex.bits6 (fun HT_ HW_ => ?_)
     generalize w25.drew = w26 at BK177 HB hx178_0 hx178_1 hx179_0 hx179_1 hHeld ⊢
     refine pU 1 20 (bA 19 2) HT_ ?_; refine pU 2 21 (bA 19 6) HT_ ?_; refine pU 3 22 (bA 19 14) HT_ ?_; refine pU 4 23 (bA 19 30) HT_ ?_; refine pU 5 24 (bA 19 62) HT_ ?_; refine pU 6 25 (bA 19 126) HT_ ?_; refine pU 8 27 (bA 19 382) HT_ ?_; refine pU 9 28 (bA 19 894) HT_ ?_; refine pU 10 29 (bA 19 1918) HT_ ?_; refine pU 11 30 (bA 19 3966) HT_ ?_; refine pU 12 31 (bA 19 8062) HT_ ?_; refine pU 13 32 (bA 19 16254) HT_ ?_; refine pU 17 36 (bA 19 147326) HT_ ?_
     refine tU 0 19 (bA 19 147327) HT_ HW_ hHeld ?_ (hy := Or.inl ⟨by rfl, by rintro w' ⟨s0, s1, s2, s3, s4, s5⟩; go_simp; with_reducible rfl⟩)
     refine tU 7 26 (bA 19 147455) HT_ HW_ hHeld ?_ (hy := Or.inl ⟨by rfl, by rintro w' ⟨s0, s1, s2, s3, s4, s5⟩; go_simp; with_reducible rfl⟩)
     refine tU 14 33 (bA 19 163839) HT_ HW_ hHeld ?_ (hy := Or.inl ⟨by rfl, by rintro w' ⟨s0, s1, s2, s3, s4, s5⟩; go_simp; with_reducible rfl⟩)
     refine oU 15 34 (bA 19 196607) HT_ (fun K hK => ?_)
     refine goes_ Try.func106 kR rfl #[.agg #[.int .i64 ((rd_impl_Peg l0 x14_1).f0), .int .i64 ((rd_impl_Peg l0 x14_1).f1)], .agg #[.int .i64 ((rd_impl_Peg l0 (ji9)).f0), .int .i64 ((rd_impl_Peg l0 (ji9)).f1)], .agg #[.int .i64 ((rd_impl_Peg l0 (ji12)).f0), .int .i64 ((rd_impl_Peg l0 (ji12)).f1)]] (by rfl) rfl rfl (by (try simp only [mA, mC, mN]); first | done | (simp only [hji12, hji9]; rfl) | rfl | (simp only [lD, lT]; rfl)) ?_
     with_reducible refine (spec_pgTurn.calls ((rd_impl_Peg l0 x14_1).f0) ((rd_impl_Peg l0 x14_1).f1) ((rd_impl_Peg l0 (ji9)).f0) ((rd_impl_Peg l0 (ji9)).f1) ((rd_impl_Peg l0 (ji12)).f0) ((rd_impl_Peg l0 (ji12)).f1) t180 _ A15.out).mono ?_
     rintro e w27 ⟨rfl, hb⟩; refine ⟨_, rfl, ?_⟩; replace BK177 := bB BK177 hb; replace HB := tB HB hb; (try clear hb); (try clear hb2); (try clear hk); (try clear hi)
     refine hK.out _ _ ⟨vZ0 BK177, vZ1 BK177, (hC HB hw178_0 :), (hC HB hw178_1 :), (hC HB hw179_0 :), (hC HB hw179_1 :)⟩ (fun hHeld => ?_)
     clear hK K
     refine nU ?_
     refine oU 16 35 (bA 19 262143) HT_ (fun K hK => ?_)
     refine goes_ Try.func136 kR rfl #[.int .i64 t180] (by rfl) rfl rfl sQ ?_
     with_reducible refine (spec_l1Sign.calls t180 t181 _ A16.out).mono ?_
     rintro e w' ⟨rfl, ⟨nd, rfl⟩⟩; refine ⟨_, rfl, ?_⟩
     refine hK.out _ _ ⟨vZ0 BK177, vZ1 BK177, (hC HB hw178_0 :), (hC HB hw178_1 :), (hC HB hw179_0 :), (hC HB hw179_1 :)⟩ (fun hHeld => ?_)
     clear hK K
     refine nU ?_
     refine pU 18 37 (bA 19 524287) HT_ ?_
     refine done_ (done_of HT_.out kR) ?_
     try go_wp2
     go_ret
     exact ⟨by first | rfl | (simp [errW_none, errW_some] <;> rfl) | (simp only [← hji9, ← hji12]; first | rfl | (simp [errW_none, errW_some] <;> rfl)) | (simp [*, errW_none, errW_some] <;> rfl), bE⟩
   ·rw [if_neg c5] at H; have c5b0 := decide_eq_false c5; clear c5; obtain rfl := Option.some.inj H; go_wp2
    go_ret
    exact ⟨wQ, bQ⟩

def spec_l1Most.f (a0 : Int) (a1 : Int) : Option (Int) := if a0 > a1 then (some a0) else (some a1)
set_option maxHeartbeats 8000000 in
set_option maxRecDepth 100000 in
theorem spec_l1Most.calls (a0 : Int) (a1 : Int) (r : Int) (w : World) (h : spec_l1Most.f a0 a1 = some r) :
  Calls Try.prog 141 #[.int .i64 a0, .int .i64 a1] w fun e w' => e = .returned (.int .i64 r) ∧ Drawn0 w w' := by
 unfold spec_l1Most.f at h; have H := h; clear h
 by_cases c3 : a0 > a1
 ·rw [if_pos c3] at H; have c3b0 := dE c3; clear c3; obtain rfl := Option.some.inj H
  go_enter Try.func141, Try.ntmps141
  go_wp2
  go_ret
  exact ⟨eQ, dQ⟩
 ·rw [if_neg c3] at H; have c3b0 := decide_eq_false c3; clear c3; obtain rfl := Option.some.inj H
  go_enter Try.func141, Try.ntmps141
  go_wp2
  go_ret
  exact ⟨eQ, dQ⟩

def spec_l1Abs.f (a0 : Int) : Option (Int) := (spec_l1Most.f a0 (wrap64 (-a0))).bind fun t182 => (some t182)
set_option maxHeartbeats 8000000 in
set_option maxRecDepth 100000 in
theorem spec_l1Abs.calls (a0 : Int) (r : Int) (w : World) (h : spec_l1Abs.f a0 = some r) :
  Calls Try.prog 127 #[.int .i64 a0] w fun e w' => e = .returned (.int .i64 r) ∧ Drawn0 w w' := by
 unfold spec_l1Abs.f at h; have H := h; clear h
 replace H := bS H; obtain ⟨t182, A2, H⟩ := H; obtain rfl := Option.some.inj H
 go_enter Try.func127, Try.ntmps127
 go_wp2_with (first | ((with_reducible refine gC (f := 141) rfl ?_); refine goesL_ (some 6) rfl rfl Try.func141 kR rfl #[.int .i64 a0, .int .i64 (wrap64 (-a0))] rfl sQ ?_; (with_reducible refine (spec_l1Most.calls a0 (wrap64 (-a0)) t182 _ A2.out).mono ?_); rintro e w' ⟨rfl, ⟨nd, rfl⟩⟩; refine ⟨_, rfl, ?_⟩))
 go_ret
 exact ⟨eQ, dQ⟩

end Go.Proofs.Ytklhakfmegbobaa.X
