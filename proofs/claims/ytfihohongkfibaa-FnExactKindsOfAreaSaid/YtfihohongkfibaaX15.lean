-- thin
-- short
-- compact
import Derived.Test.YtfihohongkfibaaXA
import Derived.Test.YtfihohongkfibaaX0
import Derived.Test.YtfihohongkfibaaX10
import Derived.Test.YtfihohongkfibaaX14
import Derived.Test.YtfihohongkfibaaXW2
namespace Go.Proofs.Ytfihohongkfibaa.X
open Go.RowKit Go.Proofs.Ytfihohongkfibaa.XW Go.Proofs.YtfihohongkfibaaW.PrintWords Go.Proofs.YtfihohongkfibaaW.PrintLast Go.Proofs.YtfihohongkfibaaW.PrintMore
attribute [local go_sem] max2_int min2_int max_two min_two max_three min_three max_four min_four   -- for this text's walks alone
set_option linter.unusedVariables false
set_option linter.unusedSimpArgs false

mutual
def impl_frame.j0 : Nat → List (S_impl_Peg) → Int → Int → Int → Int → Int → Option ((List (S_impl_Peg)))
 | 0, _, _, _, _, _, _ => none
 | k + 1, x0, x4, x5, x6, x325000, x325001 => if x4 = 0 then (none) else (if 2 < (x0.length : Int) then (if 0 < (x0.length : Int) then ((impl_Peg_less.f ((rd_impl_Peg x0 2).f0) ((rd_impl_Peg x0 2).f1) ((rd_impl_Peg x0 0).f0) ((rd_impl_Peg x0 0).f1)).bind fun bt331 => ((impl_Move_bring.f x5 x6 (wrap64 (Int.tdiv (wrap64 (-x325001)) x4)) (wrap64 (Int.tdiv x325000 x4)) 0 0 bt331.1 bt331.2).bind fun bt333 => (if bt333.2 < 0 then (impl_frame.j1 k x0 x5 x6 (wrap64 (-(wrap64 (Int.tdiv (wrap64 (-x325001)) x4)))) (wrap64 (-(wrap64 (Int.tdiv x325000 x4)))) 0 0 bt333.1 (wrap64 (-bt333.2))) else (impl_frame.j1 k x0 x5 x6 (wrap64 (Int.tdiv (wrap64 (-x325001)) x4)) (wrap64 (Int.tdiv x325000 x4)) 0 0 bt333.1 bt333.2)))) else (none)) else (none))
def impl_frame.j1 : Nat → List (S_impl_Peg) → Int → Int → Int → Int → Int → Int → Int → Int → Option ((List (S_impl_Peg)))
 | 0, _, _, _, _, _, _, _, _, _ => none
 | k + 1, x0, x329000, x329001, x329002, x329003, x329004, x329005, x336000, x336001 => if x336001 = 0 then (none) else (if 0 ≤ (x0.length : Int) then (if ((x0.length : Int) : Int).toNat ≤ 17592186044416 then (impl_frame.l0 k x0 (([] : List (S_impl_Peg))) x0 (x0.length : Int) 0 (wrap64 (x329000 + (wrap64 ((wrap64 (Int.tdiv (wrap64 ((Int.tmod (wrap64 ((Int.tmod x336000 x336001) + x336001)) x336001) - x336000)) x336001)) * x329002)))) (wrap64 (x329001 + (wrap64 ((wrap64 (Int.tdiv (wrap64 ((Int.tmod (wrap64 ((Int.tmod x336000 x336001) + x336001)) x336001) - x336000)) x336001)) * x329003)))) x329002 x329003 x329004 x329005) else (none)) else (none))
def impl_frame.l0 : Nat → List (S_impl_Peg) → List (S_impl_Peg) → List (S_impl_Peg) → Int → Int → Int → Int → Int → Int → Int → Int → Option ((List (S_impl_Peg)))
 | 0, _, _, _, _, _, _, _, _, _, _, _ => none
 | k + 1, x0, x11, x111, x112, x113, x329000, x329001, x329002, x329003, x329004, x329005 => if x113 < x112 then (if 0 ≤ x113 then (if x113 < (x111.length : Int) then (if 0 < (x0.length : Int) then ((impl_Peg_less.f ((rd_impl_Peg x111 x113).f0) ((rd_impl_Peg x111 x113).f1) ((rd_impl_Peg x0 0).f0) ((rd_impl_Peg x0 0).f1)).bind fun bt342 => ((impl_Move_bring.f x329000 x329001 x329002 x329003 x329004 x329005 bt342.1 bt342.2).bind fun bt344 => (if x11.length < 8796093022208 then (impl_frame.l0 k x0 (x11 ++ [(⟨bt344.1, bt344.2⟩ : S_impl_Peg)]) x111 x112 (wrap64 (x113 + 1)) x329000 x329001 x329002 x329003 x329004 x329005) else (none)))) else (none)) else (none)) else (none)) else (some x11)
end
def impl_frame.f (k : Nat) (l0 : List (S_impl_Peg)) : Option ((List (S_impl_Peg))) := if 1 < (l0.length : Int) then (if 0 < (l0.length : Int) then ((impl_Peg_less.f ((rd_impl_Peg l0 1).f0) ((rd_impl_Peg l0 1).f1) ((rd_impl_Peg l0 0).f0) ((rd_impl_Peg l0 0).f1)).bind fun bt322 => ((impl_bezout.f k bt322.1 bt322.2).bind fun bt325 => (if bt325.1 < 0 then (impl_frame.j0 k l0 (wrap64 (-bt325.1)) (wrap64 (-bt325.2.1)) (wrap64 (-bt325.2.2)) bt322.1 bt322.2) else (impl_frame.j0 k l0 bt325.1 bt325.2.1 bt325.2.2 bt322.1 bt322.2)))) else (none)) else (none)
theorem impl_frame.mono_l : ∀ k, (∀ y0 y1 y2 y3 y4 y5, LeO (impl_frame.j0 k y0 y1 y2 y3 y4 y5) (impl_frame.j0 (k + 1) y0 y1 y2 y3 y4 y5)) ∧ (∀ y0 y1 y2 y3 y4 y5 y6 y7 y8, LeO (impl_frame.j1 k y0 y1 y2 y3 y4 y5 y6 y7 y8) (impl_frame.j1 (k + 1) y0 y1 y2 y3 y4 y5 y6 y7 y8)) ∧ (∀ y0 y1 y2 y3 y4 y5 y6 y7 y8 y9 y10, LeO (impl_frame.l0 k y0 y1 y2 y3 y4 y5 y6 y7 y8 y9 y10) (impl_frame.l0 (k + 1) y0 y1 y2 y3 y4 y5 y6 y7 y8 y9 y10))
 | 0 => ⟨fun _ _ _ _ _ _ r h => by simp [impl_frame.j0] at h, fun _ _ _ _ _ _ _ _ _ r h => by simp [impl_frame.j1] at h, fun _ _ _ _ _ _ _ _ _ _ _ r h => by simp [impl_frame.l0] at h⟩
 | k + 1 => by
  obtain ⟨ih0, ih1, ih2⟩ := impl_frame.mono_l k
  refine ⟨?_, ?_, ?_⟩ <;> intros <;> (first | unfold impl_frame.j0 | unfold impl_frame.j1 | unfold impl_frame.l0) <;> repeat' first | (with_reducible exact ih0 _ _ _ _ _ _) | (with_reducible exact ih1 _ _ _ _ _ _ _ _ _) | (with_reducible exact ih2 _ _ _ _ _ _ _ _ _ _ _) | (with_reducible exact impl_bezout.mono _ _ _) | (with_reducible exact LeO.refl _) | (with_reducible exact LeO.none _) | (with_reducible refine LeO.ite ?_ ?_) | (with_reducible refine LeO.bind ?_ (fun _ => ?_)) | exact ih0 _ _ _ _ _ _ | exact ih1 _ _ _ _ _ _ _ _ _ | exact ih2 _ _ _ _ _ _ _ _ _ _ _ | exact impl_bezout.mono _ _ _ | exact LeO.none _ | refine LeO.ite ?_ ?_ | refine LeO.bind ?_ (fun _ => ?_)
theorem impl_frame.mono : ∀ a0 k, LeO (impl_frame.f k a0) (impl_frame.f (k + 1) a0) := by
 intro a0 k
 obtain ⟨ih0, ih1, ih2⟩ := impl_frame.mono_l k
 unfold impl_frame.f
 repeat' first | (with_reducible exact ih0 _ _ _ _ _ _) | (with_reducible exact ih1 _ _ _ _ _ _ _ _ _) | (with_reducible exact ih2 _ _ _ _ _ _ _ _ _ _ _) | (with_reducible exact impl_bezout.mono _ _ _) | (with_reducible exact LeO.refl _) | (with_reducible exact LeO.none _) | (with_reducible refine LeO.ite ?_ ?_) | (with_reducible refine LeO.bind ?_ (fun _ => ?_)) | exact ih0 _ _ _ _ _ _ | exact ih1 _ _ _ _ _ _ _ _ _ | exact ih2 _ _ _ _ _ _ _ _ _ _ _ | exact impl_bezout.mono _ _ _ | exact LeO.none _ | refine LeO.ite ?_ ?_ | refine LeO.bind ?_ (fun _ => ?_)
def impl_frame.T1 : Bool × List (List Nat × List Nat) := (true, [([], []), ([0], [0]), ([1], [1]), ([], []), ([3], [3]), ([4], [4]), ([2, 5], [2, 5]), ([], []), ([7, 6, 6, 0, 1, 2, 3, 4, 5, 6, 7], [6, 7])])
def impl_frame.B1 : List Nat := [0, 1, 3, 0, 8, 24, 63, 0, 255]
theorem impl_frame.tab1 : rtab .any (opsOf Try.f100 1) = impl_frame.T1 := by kernel_rfl
theorem impl_frame.bits1 : waitsOk impl_frame.T1.2 impl_frame.B1 = true := by kernel_rfl
def impl_frame.T5 : Bool × List (List Nat × List Nat) := (true, [([], []), ([], []), ([], []), ([2], [2]), ([3], [3]), ([], []), ([4, 5], [4, 5]), ([], []), ([7], [7]), ([], []), ([8, 9], [8, 9]), ([0, 1, 6, 10], [0, 1, 6, 10]), ([], []), ([12, 11, 0, 1, 2, 3, 4, 5, 6, 7, 8, 9, 10, 11, 12], [11, 12])])
def impl_frame.B5 : List Nat := [0, 0, 0, 4, 12, 0, 60, 0, 128, 0, 896, 2047, 0, 8191]
theorem impl_frame.tab5 : rtab .any (opsOf Try.f100 5) = impl_frame.T5 := by kernel_rfl
theorem impl_frame.bits5 : waitsOk impl_frame.T5.2 impl_frame.B5 = true := by kernel_rfl
def impl_frame.T6 : Bool × List (List Nat × List Nat) := (true, [([], []), ([], []), ([1], [1]), ([2], [2]), ([], []), ([4], [4]), ([5], [5]), ([3, 6], [3, 6]), ([0, 7, 7], [0, 7]), ([], []), ([9, 8, 8, 0, 1, 2, 3, 4, 5, 6, 7, 8, 9], [8, 9])])
def impl_frame.B6 : List Nat := [0, 0, 2, 6, 0, 16, 48, 126, 255, 0, 1023]
theorem impl_frame.tab6 : rtab .any (opsOf Try.f100 6) = impl_frame.T6 := by kernel_rfl
theorem impl_frame.bits6 : waitsOk impl_frame.T6.2 impl_frame.B6 = true := by kernel_rfl
def impl_frame.T9 : Bool × List (List Nat × List Nat) := (true, [([], []), ([0], [0]), ([], []), ([2], [2]), ([1, 3], [1, 3]), ([], []), ([5], [5]), ([4, 6], [4, 6]), ([], []), ([8], [8]), ([7, 9], [7, 9]), ([10, 0, 1, 2, 3, 4, 5, 6, 7, 8, 9, 10], [10])])
def impl_frame.B9 : List Nat := [0, 1, 0, 4, 15, 0, 32, 127, 0, 256, 1023, 2047]
theorem impl_frame.tab9 : rtab .any (opsOf Try.f100 9) = impl_frame.T9 := by kernel_rfl
theorem impl_frame.bits9 : waitsOk impl_frame.T9.2 impl_frame.B9 = true := by kernel_rfl
def impl_frame.T16 : Bool × List (List Nat × List Nat) := (true, [([], []), ([], []), ([], []), ([], []), ([3], [3]), ([4], [4]), ([2, 5], [2, 5]), ([1, 6, 6], [1, 6]), ([7], [7]), ([0, 8, 7], [0, 8]), ([9, 9, 0, 1, 2, 3, 4, 5, 6, 7, 8, 9], [0, 9])])
def impl_frame.B16 : List Nat := [0, 0, 0, 0, 8, 24, 60, 126, 254, 511, 1023]
theorem impl_frame.tab16 : rtab .any (opsOf Try.f100 16) = impl_frame.T16 := by kernel_rfl
theorem impl_frame.bits16 : waitsOk impl_frame.T16.2 impl_frame.B16 = true := by kernel_rfl
def impl_frame.T8 : Bool × List (List Nat × List Nat) := (true, [([], []), ([0], [0]), ([1], [1]), ([], []), ([3], [3]), ([4], [4]), ([], []), ([6], [6]), ([7], [7]), ([0, 1, 2, 3, 4], []), ([9, 2, 0, 1, 2, 3, 4], [2, 9]), ([0, 1, 2, 3, 4, 5, 9, 10], []), ([11, 5, 10, 0, 1, 2, 3, 4, 5, 9, 10], [5, 11]), ([0, 1, 2, 3, 4, 5, 6, 7, 8, 9, 10, 11, 12], []), ([13, 8, 12, 0, 1, 2, 3, 4, 5, 6, 7, 8, 9, 10, 11, 12], [8, 13])])
def impl_frame.B8 : List Nat := [0, 1, 3, 0, 8, 24, 0, 64, 192, 31, 543, 1599, 3647, 8191, 16383]
theorem impl_frame.tab8 : rtab .any (opsOf Try.f100 8) = impl_frame.T8 := by kernel_rfl
theorem impl_frame.bits8 : waitsOk impl_frame.T8.2 impl_frame.B8 = true := by kernel_rfl
set_option maxHeartbeats 8000000 in
set_option maxRecDepth 100000 in
theorem impl_frame.calls (k : Nat) (A0 : Option Addr) (c0 : Nat) (l0 : List (S_impl_Peg)) (r : List (S_impl_Peg)) (w : World) (hr0 : Kd.C kd_impl_Peg w A0 l0.length l0) (hc0 : l0.length ≤ c0) (h : impl_frame.f k l0 = some r) :
  Calls Try.prog 100 #[.slice A0 l0.length c0] w fun e w' => ∃ v0_ : Value, e = .returned (v0_) ∧ Kd.R kd_impl_Peg 50 w' w.heap.size (fun _ => True) v0_ r ∧ Below w.heap.size w w' := by
 have hu50 := Try.underlying50; have hu36 := Try.underlying36; have HR0 := aM hr0; have HC0 := aM hc0; clear hr0 hc0; have HB := aM (Below.refl w.heap.size w)
 unfold impl_frame.f at h; have H := h; clear h
 replace H := iN H; obtain ⟨c2, H⟩ := H; have c2b0 := dE c2; have c2b1 : decide (1 < l0.length) = true := dE (by omega)
 clear c2; replace H := iN H; obtain ⟨c3, H⟩ := H; have c3b0 := dE c3; have c3b1 : decide (0 < l0.length) = true := dE (by omega)
 clear c3; replace H := bS H; obtain ⟨⟨t322, t323⟩, A4, H⟩ := H; replace H := bS H; obtain ⟨⟨t325, t326, t327⟩, A5, H⟩ := H; have HC6 := aM H; clear H
 go_enter Try.func100, Try.ntmps100
 try go_wp2
 replace HB := aM (pD HB.out); have p320 : 0 ≤ (1 : Int) := (by omega)
 have q320 : 1 < (l0.length : Int) := dT aQ; obtain ⟨ad320, e320, hx320_0, hx320_1⟩ := at_impl_Peg HR0.out 1 p320 q320; have hw320_1 := hx320_1
 (try rw [show ((1 : Int)).toNat = 1 from rfl] at hw320_1)
 (try rw [show 1 * 2 = 2 from rfl] at hw320_1)
 (try simp only [Nat.reduceMul, Nat.reduceEqDiff, Go.Addr.add, ↓reduceIte] at hw320_1)
 have hw320_0 := hx320_0
 (try rw [show ((1 : Int)).toNat = 1 from rfl] at hw320_0)
 (try rw [show 1 * 2 = 2 from rfl] at hw320_0)
 (try simp only [Nat.reduceMul, Nat.reduceEqDiff, Go.Addr.add, ↓reduceIte] at hw320_0)
 cases e320
 (try simp only [show (1 : Int).toNat = 1 from rfl, Nat.reduceMul, Nat.reduceEqDiff, Go.Addr.add, ↓reduceIte] at hx320_0)
 (try simp only [show (1 : Int).toNat = 1 from rfl, Nat.reduceMul, Nat.reduceEqDiff, Go.Addr.add, ↓reduceIte] at hx320_1)
 have qi320 : (1 < l0.length) = True := eq_true (by omega)
 (try rw [show ((1 : Int)).toNat = 1 from rfl] at hx320_0)
 (try rw [show 1 * 2 = 2 from rfl] at hx320_0)
 (try rw [show ((1 : Int)).toNat = 1 from rfl] at hx320_1)
 (try rw [show 1 * 2 = 2 from rfl] at hx320_1)
 replace hx320_0 := hC HB hx320_0; replace hx320_1 := hC HB hx320_1; replace p320 := eq_true p320; replace q320 := eq_true q320; have p321 : 0 ≤ (0 : Int) := (by omega)
 have q321 : 0 < (l0.length : Int) := dT aQ; obtain ⟨ad321, e321, hx321_0, hx321_1⟩ := at_impl_Peg HR0.out 0 p321 q321; have hw321_1 := hx321_1
 (try rw [show ((0 : Int)).toNat = 0 from rfl] at hw321_1)
 (try rw [show 0 * 2 = 0 from rfl] at hw321_1)
 (try rw [Addr.add_zero'] at hw321_1)
 have hw321_0 := hx321_0
 (try rw [show ((0 : Int)).toNat = 0 from rfl] at hw321_0)
 (try rw [show 0 * 2 = 0 from rfl] at hw321_0)
 (try rw [Addr.add_zero'] at hw321_0)
 obtain rfl : ad320 = ad321 := (by injection e321)
 have qi321 : (0 < l0.length) = True := eq_true (by omega)
 (try rw [show ((0 : Int)).toNat = 0 from rfl] at hx321_0)
 (try rw [show 0 * 2 = 0 from rfl] at hx321_0)
 (try rw [Addr.add_zero'] at hx321_0)
 (try rw [show ((0 : Int)).toNat = 0 from rfl] at hx321_1)
 (try rw [show 0 * 2 = 0 from rfl] at hx321_1)
 (try rw [Addr.add_zero'] at hx321_1)
 replace hx321_0 := hC HB hx321_0; replace hx321_1 := hC HB hx321_1; replace p321 := eq_true p321; replace q321 := eq_true q321
 refine start_ (n := 9) (S := fun w' => w'.cell? ⟨ad320.block, ad320.off + 2, none⟩ = some (.int .i64 ((rd_impl_Peg l0 1).f0)) ∧ w'.cell? ⟨ad320.block, ad320.off + 2 + 1, none⟩ = some (.int .i64 ((rd_impl_Peg l0 1).f1)) ∧ w'.cell? ad320 = some (.int .i64 ((rd_impl_Peg l0 0).f0)) ∧ w'.cell? ⟨ad320.block, ad320.off + 1, none⟩ = some (.int .i64 ((rd_impl_Peg l0 0).f1))) (ds := []) (bA 9 0) kR rfl kR ⟨(hC HB hw320_0 :), (hC HB hw320_1 :), (hC HB hw321_0 :), (hC HB hw321_1 :)⟩ (fun hHeld => ?_); refine with_tabW impl_frame.tab1 impl_frame.bits1 (fun HT_ HW_ => ?_)
 generalize w.drew = w7 at HB hx320_0 hx320_1 hx321_0 hx321_1 hHeld ⊢
 refine pU 0 14 (bA 9 1) HT_ ?_; refine pU 1 15 (bA 9 3) HT_ ?_; refine pU 3 17 (bA 9 11) HT_ ?_; refine pU 4 18 (bA 9 27) HT_ ?_
 refine tU 2 16 (bA 9 31) HT_ HW_ hHeld ?_ (hy := Or.inl ⟨by rfl, by rintro w' ⟨s0, s1, s2, s3⟩; go_simp; with_reducible rfl⟩)
 refine tU 5 19 (bA 9 63) HT_ HW_ hHeld ?_ (hy := Or.inl ⟨by rfl, by rintro w' ⟨s0, s1, s2, s3⟩; go_simp; with_reducible rfl⟩)
 refine join_ (σ := Nat) 1 (bA 9 255) (fun s_ => [(20, .agg #[.int .i64 t322, .int .i64 t323]), (3, .pointer (some ⟨s_, 0, none⟩))]) (fun s_ w' => (w'.cell? ⟨ad320.block, ad320.off + 2, none⟩ = some (.int .i64 ((rd_impl_Peg l0 1).f0)) ∧ w'.cell? ⟨ad320.block, ad320.off + 2 + 1, none⟩ = some (.int .i64 ((rd_impl_Peg l0 1).f1)) ∧ w'.cell? ad320 = some (.int .i64 ((rd_impl_Peg l0 0).f0)) ∧ w'.cell? ⟨ad320.block, ad320.off + 1, none⟩ = some (.int .i64 ((rd_impl_Peg l0 0).f1))) ∧ (w'.heap[s_]? = some (.cells #[.int .i64 0, .int .i64 0] 50 (0, 0))) ∧ (w.heap.size ≤ s_) ∧ (w.heap.size ≤ s_) ∧ (Below w.heap.size w w')) ?_ ?_
 rotate_left
 ·intro hCont
  refine two_ (i := 6) (j := 7) (Ni := some 20) (Nj := some 3) (bA 9 127) (bA 9 191) rfl rfl rfl rfl (two_of HT_.out kR) (by decide) (by decide) (fun K hK => ?_) (fun K hK => ?_)
  ·skip
   refine goes_ Try.func65 kR rfl #[.agg #[.int .i64 ((rd_impl_Peg l0 1).f0), .int .i64 ((rd_impl_Peg l0 1).f1)], .agg #[.int .i64 ((rd_impl_Peg l0 0).f0), .int .i64 ((rd_impl_Peg l0 0).f1)]] (by rfl) rfl rfl sQ ?_
   with_reducible refine (impl_Peg_less.calls ((rd_impl_Peg l0 1).f0) ((rd_impl_Peg l0 1).f1) ((rd_impl_Peg l0 0).f0) ((rd_impl_Peg l0 0).f1) t322 t323 _ A4.out).mono ?_
   rintro e w8 ⟨rfl, hb⟩; refine ⟨_, rfl, ?_⟩; replace HB := tB HB hb; (try clear hb); (try clear hb2); (try clear hk); (try clear hi)
   refine hK.out _ _ ⟨(hC HB hw320_0 :), (hC HB hw320_1 :), (hC HB hw321_0 :), (hC HB hw321_1 :)⟩ (fun hHeld => ?_)
   clear hK K
   refine nU ?_
   refine oU 7 3 (bA 9 255) HT_ (fun K hK => ?_)
   refine box_step ?hg (N := 3) ?hd (cs := #[.int .i64 0, .int .i64 0]) (t := 50) ?hr ?_; (case hd => rfl); (case hg => rfl); (case hr => first | (go_simp; done) | (go_simp; rfl))
   intro gb324 hg w9 hbox hb
   have BK324 := aM (hbox); have GW324 := gZ HB hg; have GE324 := gZ HB hg; replace HB := tB HB hb; clear hb hbox hg
   refine hK.out _ _ ⟨(hC HB hw320_0 :), (hC HB hw320_1 :), (hC HB hw321_0 :), (hC HB hw321_1 :)⟩ (fun hHeld => ?_)
   clear hK K
   refine nU ?_
   exact norm_ (by simp only [putAll, Act.put, sI, sZ, sS]) (hCont (gb324) _ ⟨hHeld, (gQ BK324), GW324.out, GE324.out, bE⟩)
  ·skip
   refine box_step ?hg (N := 3) ?hd (cs := #[.int .i64 0, .int .i64 0]) (t := 50) ?hr ?_; (case hd => rfl); (case hg => rfl); (case hr => first | (go_simp; done) | (go_simp; rfl))
   intro gb324 hg w8 hbox hb
   have BK324 := aM (hbox); have GW324 := gZ HB hg; have GE324 := gZ HB hg; replace HB := tB HB hb; clear hb hbox hg
   refine hK.out _ _ ⟨(hC HB hw320_0 :), (hC HB hw320_1 :), (hC HB hw321_0 :), (hC HB hw321_1 :)⟩ (fun hHeld => ?_)
   clear hK K
   refine nU ?_
   refine oU 6 20 (bA 9 255) HT_ (fun K hK => ?_)
   refine goes_ Try.func65 kR rfl #[.agg #[.int .i64 ((rd_impl_Peg l0 1).f0), .int .i64 ((rd_impl_Peg l0 1).f1)], .agg #[.int .i64 ((rd_impl_Peg l0 0).f0), .int .i64 ((rd_impl_Peg l0 0).f1)]] (by rfl) rfl rfl sQ ?_
   with_reducible refine (impl_Peg_less.calls ((rd_impl_Peg l0 1).f0) ((rd_impl_Peg l0 1).f1) ((rd_impl_Peg l0 0).f0) ((rd_impl_Peg l0 0).f1) t322 t323 _ A4.out).mono ?_
   rintro e w9 ⟨rfl, hb⟩; refine ⟨_, rfl, ?_⟩; replace BK324 := bB BK324 hb; replace HB := tB HB hb; (try clear hb); (try clear hb2); (try clear hk); (try clear hi)
   refine hK.out _ _ ⟨(hC HB hw320_0 :), (hC HB hw320_1 :), (hC HB hw321_0 :), (hC HB hw321_1 :)⟩ (fun hHeld => ?_)
   clear hK K
   refine nU ?_
   exact norm_ (by simp only [putAll, Act.put, sI, sZ, sS]) (hCont (gb324) _ ⟨hHeld, (gQ BK324), GW324.out, GE324.out, bE⟩)
 rintro gb324 w10 ⟨hS_, h0_, h1_, h2_, h3_⟩; have n0_ : Aside0 (w10.heap[gb324]? = some (.cells #[.int .i64 0, .int .i64 0] 50 (0, 0))) := ⟨h0_⟩; have n1_ : Aside0 (w.heap.size ≤ gb324) := ⟨h1_⟩; have n2_ : Aside0 (w.heap.size ≤ gb324) := ⟨h2_⟩; have n3_ : Aside0 (Below w.heap.size w w10) := ⟨h3_⟩; clear HB; clear h0_ h1_ h2_ h3_; have BK324 := n0_; have GW324 := n1_; have GE324 := n2_; have HB := n3_; clear n0_ n1_ n2_ n3_; have hHeld : w10.cell? ⟨ad320.block, ad320.off + 2, none⟩ = some (.int .i64 ((rd_impl_Peg l0 1).f0)) ∧ w10.cell? ⟨ad320.block, ad320.off + 2 + 1, none⟩ = some (.int .i64 ((rd_impl_Peg l0 1).f1)) ∧ w10.cell? ad320 = some (.int .i64 ((rd_impl_Peg l0 0).f0)) ∧ w10.cell? ⟨ad320.block, ad320.off + 1, none⟩ = some (.int .i64 ((rd_impl_Peg l0 0).f1)) := hS_
 refine norm_ (a' := ?_) ?_ ?_
 rotate_left
 ·simp only [putAll, Act.put, sI, sZ, sS]
  rfl
 refine one_ (i := 8) (N := none) (bA 9 511) rfl rfl (one_of HT_.out kR) (by decide) (fun K hK => ?_)
 have hs11 : w10.cell? ⟨gb324, 0, none⟩ = some (.int .i64 0) := vZ0 BK324; have hfs11 := kF BK324.out 0; have hs12 : w10.cell? ⟨gb324, 1, none⟩ = some (.int .i64 0) := vZ1 BK324; have hfs12 := kF BK324.out 1
 refine skip_ (w1 := ?_) (by rfl) rfl ?_ ?_
 rotate_left
 ·go_simp
  rfl
 refine hK.out _ _ ⟨((cell_far (p := ⟨gb324, _, none⟩) (by first | exact nN (nL (by have := wB _ _ hw320_0; first | rwa [add_block] at this | exact this) GW324.out) | (rw [add_block]; exact nN (nL (by have := wB _ _ hw320_0; first | rwa [add_block] at this | exact this) GW324.out)) | (show (Addr.add _ _).block ≠ _; rw [add_block]; exact nN (nL (by have := wB _ _ hw320_0; first | rwa [add_block] at this | exact this) GW324.out)) | (dsimp only; exact nN (nL (by have := wB _ _ hw320_0; first | rwa [add_block] at this | exact this) GW324.out))) _).trans (((cell_far (p := ⟨gb324, _, none⟩) (by first | exact nN (nL (by have := wB _ _ hw320_0; first | rwa [add_block] at this | exact this) GW324.out) | (rw [add_block]; exact nN (nL (by have := wB _ _ hw320_0; first | rwa [add_block] at this | exact this) GW324.out)) | (show (Addr.add _ _).block ≠ _; rw [add_block]; exact nN (nL (by have := wB _ _ hw320_0; first | rwa [add_block] at this | exact this) GW324.out)) | (dsimp only; exact nN (nL (by have := wB _ _ hw320_0; first | rwa [add_block] at this | exact this) GW324.out))) _).trans (hHeld.1)))), ((cell_far (p := ⟨gb324, _, none⟩) (by first | exact nN (nL (by have := wB _ _ hw320_1; first | rwa [add_block] at this | exact this) GW324.out) | (rw [add_block]; exact nN (nL (by have := wB _ _ hw320_1; first | rwa [add_block] at this | exact this) GW324.out)) | (show (Addr.add _ _).block ≠ _; rw [add_block]; exact nN (nL (by have := wB _ _ hw320_1; first | rwa [add_block] at this | exact this) GW324.out)) | (dsimp only; exact nN (nL (by have := wB _ _ hw320_1; first | rwa [add_block] at this | exact this) GW324.out))) _).trans (((cell_far (p := ⟨gb324, _, none⟩) (by first | exact nN (nL (by have := wB _ _ hw320_1; first | rwa [add_block] at this | exact this) GW324.out) | (rw [add_block]; exact nN (nL (by have := wB _ _ hw320_1; first | rwa [add_block] at this | exact this) GW324.out)) | (show (Addr.add _ _).block ≠ _; rw [add_block]; exact nN (nL (by have := wB _ _ hw320_1; first | rwa [add_block] at this | exact this) GW324.out)) | (dsimp only; exact nN (nL (by have := wB _ _ hw320_1; first | rwa [add_block] at this | exact this) GW324.out))) _).trans (hHeld.2.1)))), ((cell_far (p := ⟨gb324, _, none⟩) (by first | exact nN (nL (by have := wB _ _ hw321_0; first | rwa [add_block] at this | exact this) GW324.out) | (rw [add_block]; exact nN (nL (by have := wB _ _ hw321_0; first | rwa [add_block] at this | exact this) GW324.out)) | (show (Addr.add _ _).block ≠ _; rw [add_block]; exact nN (nL (by have := wB _ _ hw321_0; first | rwa [add_block] at this | exact this) GW324.out)) | (dsimp only; exact nN (nL (by have := wB _ _ hw321_0; first | rwa [add_block] at this | exact this) GW324.out))) _).trans (((cell_far (p := ⟨gb324, _, none⟩) (by first | exact nN (nL (by have := wB _ _ hw321_0; first | rwa [add_block] at this | exact this) GW324.out) | (rw [add_block]; exact nN (nL (by have := wB _ _ hw321_0; first | rwa [add_block] at this | exact this) GW324.out)) | (show (Addr.add _ _).block ≠ _; rw [add_block]; exact nN (nL (by have := wB _ _ hw321_0; first | rwa [add_block] at this | exact this) GW324.out)) | (dsimp only; exact nN (nL (by have := wB _ _ hw321_0; first | rwa [add_block] at this | exact this) GW324.out))) _).trans (hHeld.2.2.1)))), ((cell_far (p := ⟨gb324, _, none⟩) (by first | exact nN (nL (by have := wB _ _ hw321_1; first | rwa [add_block] at this | exact this) GW324.out) | (rw [add_block]; exact nN (nL (by have := wB _ _ hw321_1; first | rwa [add_block] at this | exact this) GW324.out)) | (show (Addr.add _ _).block ≠ _; rw [add_block]; exact nN (nL (by have := wB _ _ hw321_1; first | rwa [add_block] at this | exact this) GW324.out)) | (dsimp only; exact nN (nL (by have := wB _ _ hw321_1; first | rwa [add_block] at this | exact this) GW324.out))) _).trans (((cell_far (p := ⟨gb324, _, none⟩) (by first | exact nN (nL (by have := wB _ _ hw321_1; first | rwa [add_block] at this | exact this) GW324.out) | (rw [add_block]; exact nN (nL (by have := wB _ _ hw321_1; first | rwa [add_block] at this | exact this) GW324.out)) | (show (Addr.add _ _).block ≠ _; rw [add_block]; exact nN (nL (by have := wB _ _ hw321_1; first | rwa [add_block] at this | exact this) GW324.out)) | (dsimp only; exact nN (nL (by have := wB _ _ hw321_1; first | rwa [add_block] at this | exact this) GW324.out))) _).trans (hHeld.2.2.2))))⟩ (fun hHeld => ?_)
 clear hK K
 refine done_ (done_of HT_.out kR) ?_
 have hcz13_0 := vZ0 BK324; have hcz13_1 := vZ1 BK324; have hfz13_0 := kF BK324.out 0; have hfz13_1 := kF BK324.out 1
 go_upto_if 31 with (first | ((with_reducible refine gC (f := 137) rfl ?_); refine goesL_ (some 26) rfl rfl Try.func137 kR rfl #[.int .i64 t322, .int .i64 t323] rfl sQ ?_; (with_reducible refine (impl_bezout.calls k t322 t323 t325 t326 t327 _ A5.out).mono ?_); rintro e w' ⟨rfl, ⟨nd, rfl⟩⟩; refine ⟨_, rfl, ?_⟩))
 (try simp only [Act.put, sI, sZ, sS])
 go_cut [4, 5, 6] (fun v4 v5 v6 wc => ∃ (kq : Nat) (x4_5 : Int) (x5_5 : Int) (x6_5 : Int), v4 = .int .i64 x4_5 ∧ v5 = .int .i64 x5_5 ∧ v6 = .int .i64 x6_5 ∧ Aside0 (impl_frame.j0 kq l0 x4_5 x5_5 x6_5 t322 t323 = some r) ∧ Aside0 (kq ≤ k) ∧ Aside0 (wc.heap[gb324]? = some (.cells #[.int .i64 t322, .int .i64 t323] 50 (0, 0))) ∧ Aside0 (Below w.heap.size w wc))
 case first =>
  have H := HC6.out; clear HC6
  by_cases c14 : t325 < 0
  ·rw [if_pos c14] at H; have c14b0 := dE c14; clear c14
   (first | rw [c14b0] | (simp only [i64_w, i32_w]; rw [c14b0]) | skip)
   have H' := aM H; clear H; go_wp2
   go_meet
   case rel => exact ⟨_, (wrap64 (-t325)), (wrap64 (-t326)), (wrap64 (-t327)), eQ, eQ, eQ, H', ⟨by first | omega | exact Nat.le_refl _⟩, ⟨fQ BK324⟩, ⟨bE⟩⟩
  ·rw [if_neg c14] at H; have c14b0 := decide_eq_false c14; clear c14
   (first | rw [c14b0] | (simp only [i64_w, i32_w]; rw [c14b0]) | skip)
   have H' := aM H; clear H; go_wp2
   go_meet
   case rel => exact ⟨_, (t325), (t326), (t327), eQ, eQ, eQ, H', ⟨by first | omega | exact Nat.le_refl _⟩, ⟨fQ BK324⟩, ⟨bE⟩⟩
 case rest =>
  clear HC6; (try clear c2); (try clear c2b0); (try clear c2b1); (try clear c3); (try clear c3b0); (try clear c3b1); (try clear hcz13_0); (try clear hcz13_1); (try clear hfz13_0); (try clear hfz13_1); (try clear hx320_0); (try clear hx320_1); (try clear hx321_0); (try clear hx321_1); (try clear p320); (try clear p321); (try clear q320); (try clear q321); obtain ⟨kq, x4_5, x5_5, x6_5, rfl, rfl, rfl, HA, HJ5, BK324, HB⟩ := hcut
  cases kq with
  | zero => exact absurd HA.out (by simp [impl_frame.j0])
  | succ kj5 =>
   have H := HA.out; clear HA
   simp only [impl_frame.j0] at H
   replace H := iM H; obtain ⟨c15, H⟩ := H; have c15b0 : (x4_5 == 0) = false := beq_eq_false_iff_ne.mpr c15; have c15b1 : (x4_5 != 0) = true := bne_iff_ne.mpr c15; replace H := iN H; obtain ⟨c16, H⟩ := H; have c16b0 := dE c16; have c16b1 : decide (2 < l0.length) = true := dE (by omega)
   clear c16; replace H := iN H; obtain ⟨c17, H⟩ := H; have c17b0 := dE c17; have c17b1 : decide (0 < l0.length) = true := dE (by omega)
   clear c17; replace H := bS H; obtain ⟨⟨t331, t332⟩, A18, H⟩ := H; replace H := bS H; obtain ⟨⟨t333, t334⟩, A19, H⟩ := H; have HC20 := aM H; clear H
   try go_wp2
   replace BK324 := aM (kD BK324.out); replace HB := aM (pD HB.out)
   refine start_ (n := 14) (S := fun w' => w'.cell? ⟨gb324, 0, none⟩ = some (.int .i64 t322) ∧ w'.cell? ⟨gb324, 1, none⟩ = some (.int .i64 t323)) (ds := []) (bA 14 0) kR rfl kR ⟨vZ0 BK324, vZ1 BK324⟩ (fun hHeld => ?_); refine with_tabW impl_frame.tab5 impl_frame.bits5 (fun HT_ HW_ => ?_)
   generalize wc.drew = w21 at BK324 HB hHeld ⊢
   refine pU 0 38 (bA 14 1) HT_ ?_; refine pU 1 39 (bA 14 3) HT_ ?_; refine pU 2 40 (bA 14 7) HT_ ?_; refine pU 5 43 (bA 14 39) HT_ ?_; refine pU 7 45 (bA 14 167) HT_ ?_; refine pU 9 47 (bA 14 679) HT_ ?_
   refine tU 3 41 (bA 14 687) HT_ HW_ hHeld ?_ (hy := Or.inl ⟨by rfl, by rintro w' ⟨s0, s1⟩; go_simp; with_reducible rfl⟩)
   refine pU 4 42 (bA 14 703) HT_ ?_; refine pU 6 44 (bA 14 767) HT_ ?_
   refine tU 8 46 (bA 14 1023) HT_ HW_ hHeld ?_ (hy := Or.inl ⟨by rfl, by rintro w' ⟨s0, s1⟩; go_simp; with_reducible rfl⟩)
   refine pU 10 48 (bA 14 2047) HT_ ?_; refine pU 11 49 (bA 14 4095) HT_ ?_
   refine oU 12 7 (bA 14 8191) HT_ (fun K hK => ?_)
   refine box_step ?hg (N := 7) ?hd (cs := #[.int .i64 0, .int .i64 0, .int .i64 0, .int .i64 0, .int .i64 0, .int .i64 0]) (t := 36) ?hr ?_; (case hd => rfl); (case hg => rfl); (case hr => first | (go_simp; done) | (go_simp; rfl))
   intro gb328 hg w22 hbox hb
   have BK328 := aM (hbox); have GW328 := gZ HB hg; have GE328 := gZ HB hg; have NB324_328 := nG BK324 hg; have NB328_324 := nH BK324 hg; replace BK324 := bB BK324 hb; replace HB := tB HB hb; clear hb hbox hg
   refine hK.out _ _ ⟨vZ0 BK324, vZ1 BK324⟩ (fun hHeld => ?_)
   clear hK K
   refine nU ?_
   refine one_ (i := 13) (N := none) (bA 14 16383) rfl rfl (one_of HT_.out kR) (by decide) (fun K hK => ?_)
   have hs23 : w22.cell? ⟨gb328, 0, none⟩ = some (.int .i64 0) := vZ0 BK328; have hfs23 := kF BK328.out 0; have hns23_0 := NB324_328.out; have hms23_0 := NB328_324.out; have hs24 : w22.cell? ⟨gb328, 1, none⟩ = some (.int .i64 0) := vZ1 BK328; have hfs24 := kF BK328.out 1; have hns24_0 := NB324_328.out; have hms24_0 := NB328_324.out; have hs25 : w22.cell? ⟨gb328, 2, none⟩ = some (.int .i64 0) := vZ2 BK328; have hfs25 := kF BK328.out 2; have hns25_0 := NB324_328.out; have hms25_0 := NB328_324.out; have hs26 : w22.cell? ⟨gb328, 3, none⟩ = some (.int .i64 0) := vZ3 BK328; have hfs26 := kF BK328.out 3; have hns26_0 := NB324_328.out; have hms26_0 := NB328_324.out; have hs27 : w22.cell? ⟨gb328, 4, none⟩ = some (.int .i64 0) := vZ4 BK328; have hfs27 := kF BK328.out 4; have hns27_0 := NB324_328.out; have hms27_0 := NB328_324.out; have hs28 : w22.cell? ⟨gb328, 5, none⟩ = some (.int .i64 0) := vZ5 BK328; have hfs28 := kF BK328.out 5; have hns28_0 := NB324_328.out; have hms28_0 := NB328_324.out
   refine skip_ (w1 := ?_) (by rfl) rfl ?_ ?_
   rotate_left
   ·go_simp
    rfl
   refine hK.out _ _ ⟨((cell_far (p := ⟨gb328, _, none⟩) NB324_328.out _).trans (((cell_far (p := ⟨gb328, _, none⟩) NB324_328.out _).trans (((cell_far (p := ⟨gb328, _, none⟩) NB324_328.out _).trans (((cell_far (p := ⟨gb328, _, none⟩) NB324_328.out _).trans (((cell_far (p := ⟨gb328, _, none⟩) NB324_328.out _).trans (((cell_far (p := ⟨gb328, _, none⟩) NB324_328.out _).trans (hHeld.1)))))))))))), ((cell_far (p := ⟨gb328, _, none⟩) NB324_328.out _).trans (((cell_far (p := ⟨gb328, _, none⟩) NB324_328.out _).trans (((cell_far (p := ⟨gb328, _, none⟩) NB324_328.out _).trans (((cell_far (p := ⟨gb328, _, none⟩) NB324_328.out _).trans (((cell_far (p := ⟨gb328, _, none⟩) NB324_328.out _).trans (((cell_far (p := ⟨gb328, _, none⟩) NB324_328.out _).trans (hHeld.2))))))))))))⟩ (fun hHeld => ?_)
   clear hK K
   refine done_ (done_of HT_.out kR) ?_
   try go_wp2
   have n0_ : Aside0 (((((((w22.setCell ⟨gb328, 0, none⟩ (.int .i64 x5_5)).setCell ⟨gb328, 1, none⟩ (.int .i64 x6_5)).setCell ⟨gb328, 2, none⟩ (.int .i64 (wrap64 (Int.tdiv (wrap64 (-t323)) x4_5)))).setCell ⟨gb328, 3, none⟩ (.int .i64 (wrap64 (Int.tdiv t322 x4_5)))).setCell ⟨gb328, 4, none⟩ (.int .i64 0)).setCell ⟨gb328, 5, none⟩ (.int .i64 0)).heap[gb324]? = some (.cells #[.int .i64 t322, .int .i64 t323] 50 (0, 0))) := ⟨fQ BK324⟩; have n1_ : Aside0 (((((((w22.setCell ⟨gb328, 0, none⟩ (.int .i64 x5_5)).setCell ⟨gb328, 1, none⟩ (.int .i64 x6_5)).setCell ⟨gb328, 2, none⟩ (.int .i64 (wrap64 (Int.tdiv (wrap64 (-t323)) x4_5)))).setCell ⟨gb328, 3, none⟩ (.int .i64 (wrap64 (Int.tdiv t322 x4_5)))).setCell ⟨gb328, 4, none⟩ (.int .i64 0)).setCell ⟨gb328, 5, none⟩ (.int .i64 0)).heap[gb328]? = some (.cells #[.int .i64 x5_5, .int .i64 x6_5, .int .i64 (wrap64 (Int.tdiv (wrap64 (-t323)) x4_5)), .int .i64 (wrap64 (Int.tdiv t322 x4_5)), .int .i64 0, .int .i64 0] 36 (0, 0))) := ⟨fQ BK328⟩; have n2_ : Aside0 (Below w.heap.size w ((((((w22.setCell ⟨gb328, 0, none⟩ (.int .i64 x5_5)).setCell ⟨gb328, 1, none⟩ (.int .i64 x6_5)).setCell ⟨gb328, 2, none⟩ (.int .i64 (wrap64 (Int.tdiv (wrap64 (-t323)) x4_5)))).setCell ⟨gb328, 3, none⟩ (.int .i64 (wrap64 (Int.tdiv t322 x4_5)))).setCell ⟨gb328, 4, none⟩ (.int .i64 0)).setCell ⟨gb328, 5, none⟩ (.int .i64 0))) := ⟨bE⟩; (try clear BK324); (try clear BK328); (try clear HB)
   generalize ((((((w22.setCell ⟨gb328, 0, none⟩ (.int .i64 x5_5)).setCell ⟨gb328, 1, none⟩ (.int .i64 x6_5)).setCell ⟨gb328, 2, none⟩ (.int .i64 (wrap64 (Int.tdiv (wrap64 (-t323)) x4_5)))).setCell ⟨gb328, 3, none⟩ (.int .i64 (wrap64 (Int.tdiv t322 x4_5)))).setCell ⟨gb328, 4, none⟩ (.int .i64 0)).setCell ⟨gb328, 5, none⟩ (.int .i64 0)) = w29 at n0_ n1_ n2_ ⊢
   have BK324 := n0_; have BK328 := n1_; have HB := n2_; clear n0_ n1_ n2_; replace BK324 := aM (kD BK324.out); replace BK328 := aM (kD BK328.out); replace HB := aM (pD HB.out); have p329 : 0 ≤ (2 : Int) := (by omega)
   have q329 : 2 < (l0.length : Int) := dT aQ; obtain ⟨ad329, e329, hx329_0, hx329_1⟩ := at_impl_Peg HR0.out 2 p329 q329; have hw329_1 := hx329_1
   (try rw [show ((2 : Int)).toNat = 2 from rfl] at hw329_1)
   (try rw [show 2 * 2 = 4 from rfl] at hw329_1)
   (try simp only [Nat.reduceMul, Nat.reduceEqDiff, Go.Addr.add, ↓reduceIte] at hw329_1)
   have hw329_0 := hx329_0
   (try rw [show ((2 : Int)).toNat = 2 from rfl] at hw329_0)
   (try rw [show 2 * 2 = 4 from rfl] at hw329_0)
   (try simp only [Nat.reduceMul, Nat.reduceEqDiff, Go.Addr.add, ↓reduceIte] at hw329_0)
   obtain rfl : ad320 = ad329 := (by injection e329)
   (try simp only [show (2 : Int).toNat = 2 from rfl, Nat.reduceMul, Nat.reduceEqDiff, Go.Addr.add, ↓reduceIte] at hx329_0)
   (try simp only [show (2 : Int).toNat = 2 from rfl, Nat.reduceMul, Nat.reduceEqDiff, Go.Addr.add, ↓reduceIte] at hx329_1)
   have qi329 : (2 < l0.length) = True := eq_true (by omega)
   (try rw [show ((2 : Int)).toNat = 2 from rfl] at hx329_0)
   (try rw [show 2 * 2 = 4 from rfl] at hx329_0)
   (try rw [show ((2 : Int)).toNat = 2 from rfl] at hx329_1)
   (try rw [show 2 * 2 = 4 from rfl] at hx329_1)
   replace hx329_0 := hC HB hx329_0; replace hx329_1 := hC HB hx329_1; replace p329 := eq_true p329; replace q329 := eq_true q329; have p330 : 0 ≤ (0 : Int) := (by omega)
   have q330 : 0 < (l0.length : Int) := dT aQ; obtain ⟨ad330, e330, hx330_0, hx330_1⟩ := at_impl_Peg HR0.out 0 p330 q330; have hw330_1 := hx330_1
   (try rw [show ((0 : Int)).toNat = 0 from rfl] at hw330_1)
   (try rw [show 0 * 2 = 0 from rfl] at hw330_1)
   (try rw [Addr.add_zero'] at hw330_1)
   have hw330_0 := hx330_0
   (try rw [show ((0 : Int)).toNat = 0 from rfl] at hw330_0)
   (try rw [show 0 * 2 = 0 from rfl] at hw330_0)
   (try rw [Addr.add_zero'] at hw330_0)
   obtain rfl : ad320 = ad330 := (by injection e330)
   have qi330 : (0 < l0.length) = True := eq_true (by omega)
   (try rw [show ((0 : Int)).toNat = 0 from rfl] at hx330_0)
   (try rw [show 0 * 2 = 0 from rfl] at hx330_0)
   (try rw [Addr.add_zero'] at hx330_0)
   (try rw [show ((0 : Int)).toNat = 0 from rfl] at hx330_1)
   (try rw [show 0 * 2 = 0 from rfl] at hx330_1)
   (try rw [Addr.add_zero'] at hx330_1)
   replace hx330_0 := hC HB hx330_0; replace hx330_1 := hC HB hx330_1; replace p330 := eq_true p330; replace q330 := eq_true q330
   refine start_ (n := 11) (S := fun w' => w'.cell? ⟨gb328, 0, none⟩ = some (.int .i64 x5_5) ∧ w'.cell? ⟨gb328, 1, none⟩ = some (.int .i64 x6_5) ∧ w'.cell? ⟨gb328, 2, none⟩ = some (.int .i64 (wrap64 (Int.tdiv (wrap64 (-t323)) x4_5))) ∧ w'.cell? ⟨gb328, 3, none⟩ = some (.int .i64 (wrap64 (Int.tdiv t322 x4_5))) ∧ w'.cell? ⟨gb328, 4, none⟩ = some (.int .i64 0) ∧ w'.cell? ⟨gb328, 5, none⟩ = some (.int .i64 0) ∧ w'.cell? ⟨ad320.block, ad320.off + 4, none⟩ = some (.int .i64 ((rd_impl_Peg l0 2).f0)) ∧ w'.cell? ⟨ad320.block, ad320.off + 4 + 1, none⟩ = some (.int .i64 ((rd_impl_Peg l0 2).f1)) ∧ w'.cell? ad320 = some (.int .i64 ((rd_impl_Peg l0 0).f0)) ∧ w'.cell? ⟨ad320.block, ad320.off + 1, none⟩ = some (.int .i64 ((rd_impl_Peg l0 0).f1))) (ds := []) (bA 11 0) kR rfl kR ⟨vZ0 BK328, vZ1 BK328, vZ2 BK328, vZ3 BK328, vZ4 BK328, vZ5 BK328, (hC HB hw329_0 :), (hC HB hw329_1 :), (hC HB hw330_0 :), (hC HB hw330_1 :)⟩ (fun hHeld => ?_); refine with_tabW impl_frame.tab6 impl_frame.bits6 (fun HT_ HW_ => ?_)
   generalize w29.drew = w30 at BK324 BK328 HB hx329_0 hx329_1 hx330_0 hx330_1 hHeld ⊢
   refine pU 1 51 (bA 11 2) HT_ ?_; refine pU 2 52 (bA 11 6) HT_ ?_; refine pU 4 54 (bA 11 22) HT_ ?_; refine pU 5 55 (bA 11 54) HT_ ?_
   refine tU 0 50 (bA 11 55) HT_ HW_ hHeld ?_ (hy := Or.inl ⟨by rfl, by rintro w' ⟨s0, s1, s2, s3, s4, s5, s6, s7, s8, s9⟩; go_simp; with_reducible rfl⟩)
   refine tU 3 53 (bA 11 63) HT_ HW_ hHeld ?_ (hy := Or.inl ⟨by rfl, by rintro w' ⟨s0, s1, s2, s3, s4, s5, s6, s7, s8, s9⟩; go_simp; with_reducible rfl⟩)
   refine tU 6 56 (bA 11 127) HT_ HW_ hHeld ?_ (hy := Or.inl ⟨by rfl, by rintro w' ⟨s0, s1, s2, s3, s4, s5, s6, s7, s8, s9⟩; go_simp; with_reducible rfl⟩)
   refine join_ (σ := Nat) 1 (bA 11 1023) (fun s_ => [(57, .agg #[.int .i64 t331, .int .i64 t332]), (58, .agg #[.int .i64 t333, .int .i64 t334]), (8, .pointer (some ⟨s_, 0, none⟩))]) (fun s_ w' => (w'.cell? ⟨gb328, 0, none⟩ = some (.int .i64 x5_5) ∧ w'.cell? ⟨gb328, 1, none⟩ = some (.int .i64 x6_5) ∧ w'.cell? ⟨gb328, 2, none⟩ = some (.int .i64 (wrap64 (Int.tdiv (wrap64 (-t323)) x4_5))) ∧ w'.cell? ⟨gb328, 3, none⟩ = some (.int .i64 (wrap64 (Int.tdiv t322 x4_5))) ∧ w'.cell? ⟨gb328, 4, none⟩ = some (.int .i64 0) ∧ w'.cell? ⟨gb328, 5, none⟩ = some (.int .i64 0) ∧ w'.cell? ⟨ad320.block, ad320.off + 4, none⟩ = some (.int .i64 ((rd_impl_Peg l0 2).f0)) ∧ w'.cell? ⟨ad320.block, ad320.off + 4 + 1, none⟩ = some (.int .i64 ((rd_impl_Peg l0 2).f1)) ∧ w'.cell? ad320 = some (.int .i64 ((rd_impl_Peg l0 0).f0)) ∧ w'.cell? ⟨ad320.block, ad320.off + 1, none⟩ = some (.int .i64 ((rd_impl_Peg l0 0).f1))) ∧ (w'.heap[gb324]? = some (.cells #[.int .i64 t322, .int .i64 t323] 50 (0, 0))) ∧ (w'.heap[gb328]? = some (.cells #[.int .i64 x5_5, .int .i64 x6_5, .int .i64 (wrap64 (Int.tdiv (wrap64 (-t323)) x4_5)), .int .i64 (wrap64 (Int.tdiv t322 x4_5)), .int .i64 0, .int .i64 0] 36 (0, 0))) ∧ (w'.heap[s_]? = some (.cells #[.int .i64 0, .int .i64 0] 50 (0, 0))) ∧ (w.heap.size ≤ s_) ∧ (w.heap.size ≤ s_) ∧ (gb324 ≠ s_) ∧ (s_ ≠ gb324) ∧ (gb328 ≠ s_) ∧ (s_ ≠ gb328) ∧ (Below w.heap.size w w')) ?_ ?_
   rotate_left
   ·intro hCont
    refine two_ (i := 7) (j := 9) (Ni := some 57) (Nj := some 8) (bA 11 255) (bA 11 639) rfl rfl rfl rfl (two_of HT_.out kR) (by decide) (by decide) (fun K hK => ?_) (fun K hK => ?_)
    ·skip
     refine goes_ Try.func65 kR rfl #[.agg #[.int .i64 ((rd_impl_Peg l0 2).f0), .int .i64 ((rd_impl_Peg l0 2).f1)], .agg #[.int .i64 ((rd_impl_Peg l0 0).f0), .int .i64 ((rd_impl_Peg l0 0).f1)]] (by rfl) rfl rfl sQ ?_
     with_reducible refine (impl_Peg_less.calls ((rd_impl_Peg l0 2).f0) ((rd_impl_Peg l0 2).f1) ((rd_impl_Peg l0 0).f0) ((rd_impl_Peg l0 0).f1) t331 t332 _ A18.out).mono ?_
     rintro e w31 ⟨rfl, hb⟩; refine ⟨_, rfl, ?_⟩; replace BK324 := bB BK324 hb; replace BK328 := bB BK328 hb; replace HB := tB HB hb; (try clear hb); (try clear hb2); (try clear hk); (try clear hi)
     refine hK.out _ _ ⟨vZ0 BK328, vZ1 BK328, vZ2 BK328, vZ3 BK328, vZ4 BK328, vZ5 BK328, (hC HB hw329_0 :), (hC HB hw329_1 :), (hC HB hw330_0 :), (hC HB hw330_1 :)⟩ (fun hHeld => ?_)
     clear hK K
     refine nU ?_
     refine two_ (i := 8) (j := 9) (Ni := some 58) (Nj := some 8) (bA 11 511) (bA 11 767) rfl rfl rfl rfl (two_of HT_.out kR) (by decide) (by decide) (fun K hK => ?_) (fun K hK => ?_)
     ·skip
      refine goes_ Try.func68 kR rfl #[.agg #[.int .i64 x5_5, .int .i64 x6_5, .int .i64 (wrap64 (Int.tdiv (wrap64 (-t323)) x4_5)), .int .i64 (wrap64 (Int.tdiv t322 x4_5)), .int .i64 0, .int .i64 0], .agg #[.int .i64 t331, .int .i64 t332]] (by rfl) rfl rfl sQ ?_
      with_reducible refine (impl_Move_bring.calls x5_5 x6_5 (wrap64 (Int.tdiv (wrap64 (-t323)) x4_5)) (wrap64 (Int.tdiv t322 x4_5)) 0 0 t331 t332 t333 t334 _ A19.out).mono ?_
      rintro e w32 ⟨rfl, hb⟩; refine ⟨_, rfl, ?_⟩; replace BK324 := bB BK324 hb; replace BK328 := bB BK328 hb; replace HB := tB HB hb; (try clear hb); (try clear hb2); (try clear hk); (try clear hi)
      refine hK.out _ _ ⟨vZ0 BK328, vZ1 BK328, vZ2 BK328, vZ3 BK328, vZ4 BK328, vZ5 BK328, (hC HB hw329_0 :), (hC HB hw329_1 :), (hC HB hw330_0 :), (hC HB hw330_1 :)⟩ (fun hHeld => ?_)
      clear hK K
      refine nU ?_
      refine oU 9 8 (bA 11 1023) HT_ (fun K hK => ?_)
      refine box_step ?hg (N := 8) ?hd (cs := #[.int .i64 0, .int .i64 0]) (t := 50) ?hr ?_; (case hd => rfl); (case hg => rfl); (case hr => first | (go_simp; done) | (go_simp; rfl))
      intro gb335 hg w33 hbox hb
      have BK335 := aM (hbox); have GW335 := gZ HB hg; have GE335 := gZ HB hg; have NB324_335 := nG BK324 hg; have NB335_324 := nH BK324 hg; have NB328_335 := nG BK328 hg; have NB335_328 := nH BK328 hg; replace BK324 := bB BK324 hb; replace BK328 := bB BK328 hb; replace HB := tB HB hb; clear hb hbox hg
      refine hK.out _ _ ⟨vZ0 BK328, vZ1 BK328, vZ2 BK328, vZ3 BK328, vZ4 BK328, vZ5 BK328, (hC HB hw329_0 :), (hC HB hw329_1 :), (hC HB hw330_0 :), (hC HB hw330_1 :)⟩ (fun hHeld => ?_)
      clear hK K
      refine nU ?_
      exact norm_ (by simp only [putAll, Act.put, sI, sZ, sS]) (hCont (gb335) _ ⟨hHeld, (gQ BK324), (gQ BK328), (gQ BK335), GW335.out, GE335.out, NB324_335.out, NB335_324.out, NB328_335.out, NB335_328.out, bE⟩)
     ·skip
      refine box_step ?hg (N := 8) ?hd (cs := #[.int .i64 0, .int .i64 0]) (t := 50) ?hr ?_; (case hd => rfl); (case hg => rfl); (case hr => first | (go_simp; done) | (go_simp; rfl))
      intro gb335 hg w32 hbox hb
      have BK335 := aM (hbox); have GW335 := gZ HB hg; have GE335 := gZ HB hg; have NB324_335 := nG BK324 hg; have NB335_324 := nH BK324 hg; have NB328_335 := nG BK328 hg; have NB335_328 := nH BK328 hg; replace BK324 := bB BK324 hb; replace BK328 := bB BK328 hb; replace HB := tB HB hb; clear hb hbox hg
      refine hK.out _ _ ⟨vZ0 BK328, vZ1 BK328, vZ2 BK328, vZ3 BK328, vZ4 BK328, vZ5 BK328, (hC HB hw329_0 :), (hC HB hw329_1 :), (hC HB hw330_0 :), (hC HB hw330_1 :)⟩ (fun hHeld => ?_)
      clear hK K
      refine nU ?_
      refine oU 8 58 (bA 11 1023) HT_ (fun K hK => ?_)
      refine goes_ Try.func68 kR rfl #[.agg #[.int .i64 x5_5, .int .i64 x6_5, .int .i64 (wrap64 (Int.tdiv (wrap64 (-t323)) x4_5)), .int .i64 (wrap64 (Int.tdiv t322 x4_5)), .int .i64 0, .int .i64 0], .agg #[.int .i64 t331, .int .i64 t332]] (by rfl) rfl rfl sQ ?_
      with_reducible refine (impl_Move_bring.calls x5_5 x6_5 (wrap64 (Int.tdiv (wrap64 (-t323)) x4_5)) (wrap64 (Int.tdiv t322 x4_5)) 0 0 t331 t332 t333 t334 _ A19.out).mono ?_
      rintro e w33 ⟨rfl, hb⟩; refine ⟨_, rfl, ?_⟩; replace BK324 := bB BK324 hb; replace BK328 := bB BK328 hb; replace BK335 := bB BK335 hb; replace HB := tB HB hb; (try clear hb); (try clear hb2); (try clear hk); (try clear hi)
      refine hK.out _ _ ⟨vZ0 BK328, vZ1 BK328, vZ2 BK328, vZ3 BK328, vZ4 BK328, vZ5 BK328, (hC HB hw329_0 :), (hC HB hw329_1 :), (hC HB hw330_0 :), (hC HB hw330_1 :)⟩ (fun hHeld => ?_)
      clear hK K
      refine nU ?_
      exact norm_ (by simp only [putAll, Act.put, sI, sZ, sS]) (hCont (gb335) _ ⟨hHeld, (gQ BK324), (gQ BK328), (gQ BK335), GW335.out, GE335.out, NB324_335.out, NB335_324.out, NB328_335.out, NB335_328.out, bE⟩)
    ·skip
     refine box_step ?hg (N := 8) ?hd (cs := #[.int .i64 0, .int .i64 0]) (t := 50) ?hr ?_; (case hd => rfl); (case hg => rfl); (case hr => first | (go_simp; done) | (go_simp; rfl))
     intro gb335 hg w31 hbox hb
     have BK335 := aM (hbox); have GW335 := gZ HB hg; have GE335 := gZ HB hg; have NB324_335 := nG BK324 hg; have NB335_324 := nH BK324 hg; have NB328_335 := nG BK328 hg; have NB335_328 := nH BK328 hg; replace BK324 := bB BK324 hb; replace BK328 := bB BK328 hb; replace HB := tB HB hb; clear hb hbox hg
     refine hK.out _ _ ⟨vZ0 BK328, vZ1 BK328, vZ2 BK328, vZ3 BK328, vZ4 BK328, vZ5 BK328, (hC HB hw329_0 :), (hC HB hw329_1 :), (hC HB hw330_0 :), (hC HB hw330_1 :)⟩ (fun hHeld => ?_)
     clear hK K
     refine nU ?_
     refine oU 7 57 (bA 11 767) HT_ (fun K hK => ?_)
     refine goes_ Try.func65 kR rfl #[.agg #[.int .i64 ((rd_impl_Peg l0 2).f0), .int .i64 ((rd_impl_Peg l0 2).f1)], .agg #[.int .i64 ((rd_impl_Peg l0 0).f0), .int .i64 ((rd_impl_Peg l0 0).f1)]] (by rfl) rfl rfl sQ ?_
     with_reducible refine (impl_Peg_less.calls ((rd_impl_Peg l0 2).f0) ((rd_impl_Peg l0 2).f1) ((rd_impl_Peg l0 0).f0) ((rd_impl_Peg l0 0).f1) t331 t332 _ A18.out).mono ?_
     rintro e w32 ⟨rfl, hb⟩; refine ⟨_, rfl, ?_⟩; replace BK324 := bB BK324 hb; replace BK328 := bB BK328 hb; replace BK335 := bB BK335 hb; replace HB := tB HB hb; (try clear hb); (try clear hb2); (try clear hk); (try clear hi)
     refine hK.out _ _ ⟨vZ0 BK328, vZ1 BK328, vZ2 BK328, vZ3 BK328, vZ4 BK328, vZ5 BK328, (hC HB hw329_0 :), (hC HB hw329_1 :), (hC HB hw330_0 :), (hC HB hw330_1 :)⟩ (fun hHeld => ?_)
     clear hK K
     refine nU ?_
     refine oU 8 58 (bA 11 1023) HT_ (fun K hK => ?_)
     refine goes_ Try.func68 kR rfl #[.agg #[.int .i64 x5_5, .int .i64 x6_5, .int .i64 (wrap64 (Int.tdiv (wrap64 (-t323)) x4_5)), .int .i64 (wrap64 (Int.tdiv t322 x4_5)), .int .i64 0, .int .i64 0], .agg #[.int .i64 t331, .int .i64 t332]] (by rfl) rfl rfl sQ ?_
     with_reducible refine (impl_Move_bring.calls x5_5 x6_5 (wrap64 (Int.tdiv (wrap64 (-t323)) x4_5)) (wrap64 (Int.tdiv t322 x4_5)) 0 0 t331 t332 t333 t334 _ A19.out).mono ?_
     rintro e w33 ⟨rfl, hb⟩; refine ⟨_, rfl, ?_⟩; replace BK324 := bB BK324 hb; replace BK328 := bB BK328 hb; replace BK335 := bB BK335 hb; replace HB := tB HB hb; (try clear hb); (try clear hb2); (try clear hk); (try clear hi)
     refine hK.out _ _ ⟨vZ0 BK328, vZ1 BK328, vZ2 BK328, vZ3 BK328, vZ4 BK328, vZ5 BK328, (hC HB hw329_0 :), (hC HB hw329_1 :), (hC HB hw330_0 :), (hC HB hw330_1 :)⟩ (fun hHeld => ?_)
     clear hK K
     refine nU ?_
     exact norm_ (by simp only [putAll, Act.put, sI, sZ, sS]) (hCont (gb335) _ ⟨hHeld, (gQ BK324), (gQ BK328), (gQ BK335), GW335.out, GE335.out, NB324_335.out, NB335_324.out, NB328_335.out, NB335_328.out, bE⟩)
   rintro gb335 w34 ⟨hS_, h0_, h1_, h2_, h3_, h4_, h5_, h6_, h7_, h8_, h9_⟩; have n0_ : Aside0 (w34.heap[gb324]? = some (.cells #[.int .i64 t322, .int .i64 t323] 50 (0, 0))) := ⟨h0_⟩; have n1_ : Aside0 (w34.heap[gb328]? = some (.cells #[.int .i64 x5_5, .int .i64 x6_5, .int .i64 (wrap64 (Int.tdiv (wrap64 (-t323)) x4_5)), .int .i64 (wrap64 (Int.tdiv t322 x4_5)), .int .i64 0, .int .i64 0] 36 (0, 0))) := ⟨h1_⟩; have n2_ : Aside0 (w34.heap[gb335]? = some (.cells #[.int .i64 0, .int .i64 0] 50 (0, 0))) := ⟨h2_⟩; have n3_ : Aside0 (w.heap.size ≤ gb335) := ⟨h3_⟩; have n4_ : Aside0 (w.heap.size ≤ gb335) := ⟨h4_⟩; have n5_ : Aside0 (gb324 ≠ gb335) := ⟨h5_⟩; have n6_ : Aside0 (gb335 ≠ gb324) := ⟨h6_⟩; have n7_ : Aside0 (gb328 ≠ gb335) := ⟨h7_⟩; have n8_ : Aside0 (gb335 ≠ gb328) := ⟨h8_⟩; have n9_ : Aside0 (Below w.heap.size w w34) := ⟨h9_⟩; clear BK324; clear BK328; clear HB; clear h0_ h1_ h2_ h3_ h4_ h5_ h6_ h7_ h8_ h9_; have BK324 := n0_; have BK328 := n1_; have BK335 := n2_; have GW335 := n3_; have GE335 := n4_; have NB324_335 := n5_; have NB335_324 := n6_; have NB328_335 := n7_; have NB335_328 := n8_; have HB := n9_; clear n0_ n1_ n2_ n3_ n4_ n5_ n6_ n7_ n8_ n9_; have hHeld : w34.cell? ⟨gb328, 0, none⟩ = some (.int .i64 x5_5) ∧ w34.cell? ⟨gb328, 1, none⟩ = some (.int .i64 x6_5) ∧ w34.cell? ⟨gb328, 2, none⟩ = some (.int .i64 (wrap64 (Int.tdiv (wrap64 (-t323)) x4_5))) ∧ w34.cell? ⟨gb328, 3, none⟩ = some (.int .i64 (wrap64 (Int.tdiv t322 x4_5))) ∧ w34.cell? ⟨gb328, 4, none⟩ = some (.int .i64 0) ∧ w34.cell? ⟨gb328, 5, none⟩ = some (.int .i64 0) ∧ w34.cell? ⟨ad320.block, ad320.off + 4, none⟩ = some (.int .i64 ((rd_impl_Peg l0 2).f0)) ∧ w34.cell? ⟨ad320.block, ad320.off + 4 + 1, none⟩ = some (.int .i64 ((rd_impl_Peg l0 2).f1)) ∧ w34.cell? ad320 = some (.int .i64 ((rd_impl_Peg l0 0).f0)) ∧ w34.cell? ⟨ad320.block, ad320.off + 1, none⟩ = some (.int .i64 ((rd_impl_Peg l0 0).f1)) := hS_
   refine norm_ (a' := ?_) ?_ ?_
   rotate_left
   ·simp only [putAll, Act.put, sI, sZ, sS]
    rfl
   refine one_ (i := 10) (N := none) (bA 11 2047) rfl rfl (one_of HT_.out kR) (by decide) (fun K hK => ?_)
   have hs35 : w34.cell? ⟨gb335, 0, none⟩ = some (.int .i64 0) := vZ0 BK335; have hfs35 := kF BK335.out 0; have hns35_0 := NB324_335.out; have hns35_1 := NB328_335.out; have hms35_0 := NB335_324.out; have hms35_1 := NB335_328.out; have hs36 : w34.cell? ⟨gb335, 1, none⟩ = some (.int .i64 0) := vZ1 BK335; have hfs36 := kF BK335.out 1; have hns36_0 := NB324_335.out; have hns36_1 := NB328_335.out; have hms36_0 := NB335_324.out; have hms36_1 := NB335_328.out
   refine skip_ (w1 := ?_) (by rfl) rfl ?_ ?_
   rotate_left
   ·go_simp
    rfl
   refine hK.out _ _ ⟨((cell_far (p := ⟨gb335, _, none⟩) NB328_335.out _).trans (((cell_far (p := ⟨gb335, _, none⟩) NB328_335.out _).trans (hHeld.1)))), ((cell_far (p := ⟨gb335, _, none⟩) NB328_335.out _).trans (((cell_far (p := ⟨gb335, _, none⟩) NB328_335.out _).trans (hHeld.2.1)))), ((cell_far (p := ⟨gb335, _, none⟩) NB328_335.out _).trans (((cell_far (p := ⟨gb335, _, none⟩) NB328_335.out _).trans (hHeld.2.2.1)))), ((cell_far (p := ⟨gb335, _, none⟩) NB328_335.out _).trans (((cell_far (p := ⟨gb335, _, none⟩) NB328_335.out _).trans (hHeld.2.2.2.1)))), ((cell_far (p := ⟨gb335, _, none⟩) NB328_335.out _).trans (((cell_far (p := ⟨gb335, _, none⟩) NB328_335.out _).trans (hHeld.2.2.2.2.1)))), ((cell_far (p := ⟨gb335, _, none⟩) NB328_335.out _).trans (((cell_far (p := ⟨gb335, _, none⟩) NB328_335.out _).trans (hHeld.2.2.2.2.2.1)))), ((cell_far (p := ⟨gb335, _, none⟩) (by first | exact nN (nL (by have := wB _ _ hw329_0; first | rwa [add_block] at this | exact this) GW335.out) | (rw [add_block]; exact nN (nL (by have := wB _ _ hw329_0; first | rwa [add_block] at this | exact this) GW335.out)) | (show (Addr.add _ _).block ≠ _; rw [add_block]; exact nN (nL (by have := wB _ _ hw329_0; first | rwa [add_block] at this | exact this) GW335.out)) | (dsimp only; exact nN (nL (by have := wB _ _ hw329_0; first | rwa [add_block] at this | exact this) GW335.out))) _).trans (((cell_far (p := ⟨gb335, _, none⟩) (by first | exact nN (nL (by have := wB _ _ hw329_0; first | rwa [add_block] at this | exact this) GW335.out) | (rw [add_block]; exact nN (nL (by have := wB _ _ hw329_0; first | rwa [add_block] at this | exact this) GW335.out)) | (show (Addr.add _ _).block ≠ _; rw [add_block]; exact nN (nL (by have := wB _ _ hw329_0; first | rwa [add_block] at this | exact this) GW335.out)) | (dsimp only; exact nN (nL (by have := wB _ _ hw329_0; first | rwa [add_block] at this | exact this) GW335.out))) _).trans (hHeld.2.2.2.2.2.2.1)))), ((cell_far (p := ⟨gb335, _, none⟩) (by first | exact nN (nL (by have := wB _ _ hw329_1; first | rwa [add_block] at this | exact this) GW335.out) | (rw [add_block]; exact nN (nL (by have := wB _ _ hw329_1; first | rwa [add_block] at this | exact this) GW335.out)) | (show (Addr.add _ _).block ≠ _; rw [add_block]; exact nN (nL (by have := wB _ _ hw329_1; first | rwa [add_block] at this | exact this) GW335.out)) | (dsimp only; exact nN (nL (by have := wB _ _ hw329_1; first | rwa [add_block] at this | exact this) GW335.out))) _).trans (((cell_far (p := ⟨gb335, _, none⟩) (by first | exact nN (nL (by have := wB _ _ hw329_1; first | rwa [add_block] at this | exact this) GW335.out) | (rw [add_block]; exact nN (nL (by have := wB _ _ hw329_1; first | rwa [add_block] at this | exact this) GW335.out)) | (show (Addr.add _ _).block ≠ _; rw [add_block]; exact nN (nL (by have := wB _ _ hw329_1; first | rwa [add_block] at this | exact this) GW335.out)) | (dsimp only; exact nN (nL (by have := wB _ _ hw329_1; first | rwa [add_block] at this | exact this) GW335.out))) _).trans (hHeld.2.2.2.2.2.2.2.1)))), ((cell_far (p := ⟨gb335, _, none⟩) (by first | exact nN (nL (by have := wB _ _ hw330_0; first | rwa [add_block] at this | exact this) GW335.out) | (rw [add_block]; exact nN (nL (by have := wB _ _ hw330_0; first | rwa [add_block] at this | exact this) GW335.out)) | (show (Addr.add _ _).block ≠ _; rw [add_block]; exact nN (nL (by have := wB _ _ hw330_0; first | rwa [add_block] at this | exact this) GW335.out)) | (dsimp only; exact nN (nL (by have := wB _ _ hw330_0; first | rwa [add_block] at this | exact this) GW335.out))) _).trans (((cell_far (p := ⟨gb335, _, none⟩) (by first | exact nN (nL (by have := wB _ _ hw330_0; first | rwa [add_block] at this | exact this) GW335.out) | (rw [add_block]; exact nN (nL (by have := wB _ _ hw330_0; first | rwa [add_block] at this | exact this) GW335.out)) | (show (Addr.add _ _).block ≠ _; rw [add_block]; exact nN (nL (by have := wB _ _ hw330_0; first | rwa [add_block] at this | exact this) GW335.out)) | (dsimp only; exact nN (nL (by have := wB _ _ hw330_0; first | rwa [add_block] at this | exact this) GW335.out))) _).trans (hHeld.2.2.2.2.2.2.2.2.1)))), ((cell_far (p := ⟨gb335, _, none⟩) (by first | exact nN (nL (by have := wB _ _ hw330_1; first | rwa [add_block] at this | exact this) GW335.out) | (rw [add_block]; exact nN (nL (by have := wB _ _ hw330_1; first | rwa [add_block] at this | exact this) GW335.out)) | (show (Addr.add _ _).block ≠ _; rw [add_block]; exact nN (nL (by have := wB _ _ hw330_1; first | rwa [add_block] at this | exact this) GW335.out)) | (dsimp only; exact nN (nL (by have := wB _ _ hw330_1; first | rwa [add_block] at this | exact this) GW335.out))) _).trans (((cell_far (p := ⟨gb335, _, none⟩) (by first | exact nN (nL (by have := wB _ _ hw330_1; first | rwa [add_block] at this | exact this) GW335.out) | (rw [add_block]; exact nN (nL (by have := wB _ _ hw330_1; first | rwa [add_block] at this | exact this) GW335.out)) | (show (Addr.add _ _).block ≠ _; rw [add_block]; exact nN (nL (by have := wB _ _ hw330_1; first | rwa [add_block] at this | exact this) GW335.out)) | (dsimp only; exact nN (nL (by have := wB _ _ hw330_1; first | rwa [add_block] at this | exact this) GW335.out))) _).trans (hHeld.2.2.2.2.2.2.2.2.2))))⟩ (fun hHeld => ?_)
   clear hK K
   refine done_ (done_of HT_.out kR) ?_
   have hnb37 := NB335_324.out; have hnc37 := NB324_335.out; have hnb38 := NB335_328.out; have hnc38 := NB328_335.out; have hcz39_0 := vZ0 BK335; have hcz39_1 := vZ1 BK335; have hfz39_0 := kF BK335.out 0; have hfz39_1 := kF BK335.out 1
   go_upto_if 61 with (fail)
   go_cut [] (fun wc => ∃ (kq : Nat) (x329002_19 : Int) (x329003_19 : Int) (x336001_19 : Int), Aside0 (impl_frame.j1 kq l0 x5_5 x6_5 x329002_19 x329003_19 0 0 t333 x336001_19 = some r) ∧ Aside0 (kq ≤ kj5) ∧ Aside0 (wc.heap[gb324]? = some (.cells #[.int .i64 t322, .int .i64 t323] 50 (0, 0))) ∧ Aside0 (wc.heap[gb328]? = some (.cells #[.int .i64 x5_5, .int .i64 x6_5, .int .i64 x329002_19, .int .i64 x329003_19, .int .i64 0, .int .i64 0] 36 (0, 0))) ∧ Aside0 (wc.heap[gb335]? = some (.cells #[.int .i64 t333, .int .i64 x336001_19] 50 (0, 0))) ∧ Aside0 (Below w.heap.size w wc))
   case first =>
    have H := HC20.out; clear HC20
    by_cases c40 : t334 < 0
    ·rw [if_pos c40] at H; have c40b0 := dE c40; clear c40
     (first | rw [c40b0] | (simp only [i64_w, i32_w]; rw [c40b0]) | skip)
     have H' := aM H; clear H; have hnb41 := NB328_324.out; have hnc41 := NB324_328.out; have hnb42 := NB328_335.out; have hnc42 := NB335_328.out; have hcz43_0 := vZ0 BK328; have hcz43_1 := vZ1 BK328; have hcz43_2 : w34.cell? ⟨gb328, 2, none⟩ = some (.int .i64 (wrap64 (Int.tdiv (wrap64 (-t323)) x4_5))) := vZ2 BK328; have hcz43_3 := vZ3 BK328; have hcz43_4 := vZ4 BK328; have hcz43_5 := vZ5 BK328; have hfz43_0 := kF BK328.out 0; have hfz43_1 := kF BK328.out 1; have hfz43_2 := kF BK328.out 2; have hfz43_3 := kF BK328.out 3; have hfz43_4 := kF BK328.out 4; have hfz43_5 := kF BK328.out 5; have hnb44 := NB335_324.out; have hnc44 := NB324_335.out; have hcz45_0 := vZ0 BK335; have hcz45_1 := vZ1 BK335; have hfz45_0 := kF BK335.out 0; have hfz45_1 := kF BK335.out 1; go_wp2
     refine start_ (n := 15) (S := fun w' => w'.cell? ⟨gb328, 2, none⟩ = some (.int .i64 (wrap64 (Int.tdiv (wrap64 (-t323)) x4_5))) ∧ w'.cell? ⟨gb328, 3, none⟩ = some (.int .i64 (wrap64 (Int.tdiv t322 x4_5))) ∧ w'.cell? ⟨gb335, 1, none⟩ = some (.int .i64 t334)) (ds := [10, 12, 14]) (bA 15 0) kR rfl rfl ⟨by go_simp, by go_simp, by go_simp⟩ (fun hHeld => ?_)
     refine with_tabW impl_frame.tab8 impl_frame.bits8 (fun HT_ HW_ => ?_)
     obtain ⟨s0, s1, s2⟩ := id hHeld; refine pU 0 62 (bA 15 1) HT_ ?_; refine pU 3 65 (bA 15 9) HT_ ?_; refine pU 6 68 (bA 15 73) HT_ ?_
     refine tU 1 63 (bA 15 75) HT_ HW_ hHeld ?_ (hy := Or.inl ⟨by rfl, by rintro w' ⟨s0, s1, s2⟩; go_simp; with_reducible rfl⟩)
     refine pU 2 64 (bA 15 79) HT_ ?_
     refine tU 4 66 (bA 15 95) HT_ HW_ hHeld ?_ (hy := Or.inl ⟨by rfl, by rintro w' ⟨s0, s1, s2⟩; go_simp; with_reducible rfl⟩)
     refine pU 5 67 (bA 15 127) HT_ ?_; refine pU 9 71 (bA 15 639) HT_ ?_
     refine twoW_ (i := 7) (j := 10) (Ni := some 69) (Nj := none) (bA 15 767) (bA 15 1663) rfl rfl rfl rfl (two_of HT_.out kR) (by decide) (fun K hK => ?_) (fun K hK => ?_)
     ·skip
      refine value_ (w1 := ?_) (v := ?_) (by rfl) rfl ?_ ?_
      rotate_left 2
      ·go_simp
       constructor
       ·rfl
       ·rfl
      refine hK.out _ ?_
      clear hK K
      refine nU ?_
      refine pU 8 70 (bA 15 1023) HT_ ?_
      refine last_ (i := 10) (N := none) (bA 15 2047) rfl rfl (one_of HT_.out kR) (by decide) (fun K hK => ?_)
      refine skip_ (w1 := ?_) (by rfl) rfl ?_ ?_
      rotate_left
      ·go_simp
       rfl
      refine hK.out _ _ ?_
      clear hK K; refine pU 11 72 (bA 15 4095) HT_ ?_
      refine last_ (i := 12) (N := none) (bA 15 8191) rfl rfl (one_of HT_.out kR) (by decide) (fun K hK => ?_)
      refine skip_ (w1 := ?_) (by rfl) rfl ?_ ?_
      rotate_left
      ·go_simp
       rfl
      refine hK.out _ _ ?_
      clear hK K; refine pU 13 73 (bA 15 16383) HT_ ?_
      refine last_ (i := 14) (N := none) (bA 15 32767) rfl rfl (one_of HT_.out kR) (by decide) (fun K hK => ?_)
      refine skip_ (w1 := ?_) (by rfl) rfl ?_ ?_
      rotate_left
      ·go_simp
       rfl
      refine hK.out _ _ ?_
      clear hK K
      refine done_ (done_of HT_.out kR) ?_
      try go_wp2
      go_meet
      case rel => exact ⟨_, (wrap64 (-(wrap64 (Int.tdiv (wrap64 (-t323)) x4_5)))), (wrap64 (-(wrap64 (Int.tdiv t322 x4_5)))), (wrap64 (-t334)), H', ⟨by have := HJ5.out; first | omega | exact Nat.le_refl _⟩, ⟨fQ BK324⟩, ⟨fQ BK328⟩, ⟨fQ BK335⟩, ⟨bE⟩⟩
     ·skip
      refine skip_ (w1 := ?_) (by rfl) rfl ?_ ?_
      rotate_left
      ·go_simp
       rfl
      refine hK.out _ _ ?_
      clear hK K; refine pU 11 72 (bA 15 3711) HT_ ?_
      refine twoW_ (i := 7) (j := 12) (Ni := some 69) (Nj := none) (bA 15 3839) (bA 15 7807) rfl rfl rfl rfl (two_of HT_.out kR) (by decide) (fun K hK => ?_) (fun K hK => ?_)
      ·skip
       refine value_ (w1 := ?_) (v := ?_) (by rfl) rfl ?_ ?_
       rotate_left 2
       ·go_simp
        constructor
        ·rfl
        ·rfl
       refine hK.out _ ?_
       clear hK K
       refine nU ?_
       refine pU 8 70 (bA 15 4095) HT_ ?_
       refine last_ (i := 12) (N := none) (bA 15 8191) rfl rfl (one_of HT_.out kR) (by decide) (fun K hK => ?_)
       refine skip_ (w1 := ?_) (by rfl) rfl ?_ ?_
       rotate_left
       ·go_simp
        rfl
       refine hK.out _ _ ?_
       clear hK K; refine pU 13 73 (bA 15 16383) HT_ ?_
       refine last_ (i := 14) (N := none) (bA 15 32767) rfl rfl (one_of HT_.out kR) (by decide) (fun K hK => ?_)
       refine skip_ (w1 := ?_) (by rfl) rfl ?_ ?_
       rotate_left
       ·go_simp
        rfl
       refine hK.out _ _ ?_
       clear hK K
       refine done_ (done_of HT_.out kR) ?_
       try go_wp2
       go_meet
       case rel => exact ⟨_, (wrap64 (-(wrap64 (Int.tdiv (wrap64 (-t323)) x4_5)))), (wrap64 (-(wrap64 (Int.tdiv t322 x4_5)))), (wrap64 (-t334)), H', ⟨by have := HJ5.out; first | omega | exact Nat.le_refl _⟩, ⟨fQ BK324⟩, ⟨fQ BK328⟩, ⟨fQ BK335⟩, ⟨bE⟩⟩
      ·skip
       refine skip_ (w1 := ?_) (by rfl) rfl ?_ ?_
       rotate_left
       ·go_simp
        rfl
       refine hK.out _ _ ?_
       clear hK K
       refine oneW_ (i := 7) (N := some 69) (bA 15 7935) rfl rfl (one_of HT_.out kR) (fun K hK => ?_)
       refine value_ (w1 := ?_) (v := ?_) (by rfl) rfl ?_ ?_
       rotate_left 2
       ·go_simp
        constructor
        ·rfl
        ·rfl
       refine hK.out _ ?_
       clear hK K
       refine nU ?_
       refine pU 8 70 (bA 15 8191) HT_ ?_; refine pU 13 73 (bA 15 16383) HT_ ?_
       refine last_ (i := 14) (N := none) (bA 15 32767) rfl rfl (one_of HT_.out kR) (by decide) (fun K hK => ?_)
       refine skip_ (w1 := ?_) (by rfl) rfl ?_ ?_
       rotate_left
       ·go_simp
        rfl
       refine hK.out _ _ ?_
       clear hK K
       refine done_ (done_of HT_.out kR) ?_
       try go_wp2
       go_meet
       case rel => exact ⟨_, (wrap64 (-(wrap64 (Int.tdiv (wrap64 (-t323)) x4_5)))), (wrap64 (-(wrap64 (Int.tdiv t322 x4_5)))), (wrap64 (-t334)), H', ⟨by have := HJ5.out; first | omega | exact Nat.le_refl _⟩, ⟨fQ BK324⟩, ⟨fQ BK328⟩, ⟨fQ BK335⟩, ⟨bE⟩⟩
    ·rw [if_neg c40] at H; have c40b0 := decide_eq_false c40; clear c40
     (first | rw [c40b0] | (simp only [i64_w, i32_w]; rw [c40b0]) | skip)
     have H' := aM H; clear H; go_wp2
     go_meet
     case rel => exact ⟨_, (wrap64 (Int.tdiv (wrap64 (-t323)) x4_5)), (wrap64 (Int.tdiv t322 x4_5)), (t334), H', ⟨by have := HJ5.out; first | omega | exact Nat.le_refl _⟩, ⟨fQ BK324⟩, ⟨fQ BK328⟩, ⟨fQ BK335⟩, ⟨bE⟩⟩
   case rest =>
    clear HC20; (try clear c3); (try clear hcz39_0); (try clear hcz39_1); (try clear hfz39_0); (try clear hfz39_1); (try clear hx329_0); (try clear hx329_1); (try clear hx330_0); (try clear hx330_1); (try clear p329); (try clear p330); (try clear q329); (try clear q330); obtain ⟨kq, x329002_19, x329003_19, x336001_19, HA, HJ19, BK324, BK328, BK335, HB⟩ := hcut
    cases kq with
    | zero => exact absurd HA.out (by simp [impl_frame.j1])
    | succ kj19 =>
     have H := HA.out; clear HA
     simp only [impl_frame.j1] at H
     replace H := iM H; obtain ⟨c46, H⟩ := H; have c46b0 : (x336001_19 == 0) = false := beq_eq_false_iff_ne.mpr c46; have c46b1 : (x336001_19 != 0) = true := bne_iff_ne.mpr c46; replace H := iN H; obtain ⟨c47, H⟩ := H; have c47b0 := eq_true c47; have c47b1 := dE c47; clear c47; replace H := iN H; obtain ⟨c48, H⟩ := H; have c48b0 := eq_true c48; have c48b1 := dE c48; clear c48; obtain ⟨y336, hy336⟩ : ∃ y_ : List (S_impl_Peg), y_ = (([] : List (S_impl_Peg))) := ⟨_, rfl⟩; rw [← hy336] at H; have Ny336 := aM hy336; clear hy336; have H' := aM H; clear H
     try go_wp2
     replace BK324 := aM (kD BK324.out); replace BK328 := aM (kD BK328.out); replace BK335 := aM (kD BK335.out); replace HB := aM (pD HB.out)
     refine start_ (n := 12) (S := fun w' => w'.cell? ⟨gb335, 0, none⟩ = some (.int .i64 t333) ∧ w'.cell? ⟨gb335, 1, none⟩ = some (.int .i64 x336001_19)) (ds := []) (bA 12 0) kR rfl kR ⟨vZ0 BK335, vZ1 BK335⟩ (fun hHeld => ?_); refine with_tabW impl_frame.tab9 impl_frame.bits9 (fun HT_ HW_ => ?_)
     generalize wc.drew = w49 at BK324 BK328 BK335 HB hHeld ⊢
     refine pU 0 74 (bA 12 1) HT_ ?_; refine pU 2 76 (bA 12 5) HT_ ?_; refine pU 5 79 (bA 12 37) HT_ ?_; refine pU 8 82 (bA 12 293) HT_ ?_
     refine tU 1 75 (bA 12 295) HT_ HW_ hHeld ?_ (hy := Or.inl ⟨by rfl, by rintro w' ⟨s0, s1⟩; go_simp; with_reducible rfl⟩)
     refine tU 3 77 (bA 12 303) HT_ HW_ hHeld ?_ (hy := Or.inl ⟨by rfl, by rintro w' ⟨s0, s1⟩; go_simp; with_reducible rfl⟩)
     refine pU 4 78 (bA 12 319) HT_ ?_
     refine tU 6 80 (bA 12 383) HT_ HW_ hHeld ?_ (hy := Or.inl ⟨by rfl, by rintro w' ⟨s0, s1⟩; go_simp; with_reducible rfl⟩)
     refine pU 7 81 (bA 12 511) HT_ ?_
     refine tU 9 83 (bA 12 1023) HT_ HW_ hHeld ?_ (hy := Or.inl ⟨by rfl, by rintro w' ⟨s0, s1⟩; go_simp; with_reducible rfl⟩)
     refine pU 10 84 (bA 12 2047) HT_ ?_; refine pU 11 9 (bA 12 4095) HT_ ?_
     refine done_ (done_of HT_.out kR) ?_
     have hnb50 := NB335_324.out; have hnc50 := NB324_335.out; have hnb51 := NB335_328.out; have hnc51 := NB328_335.out; have hcz52_0 := vZ0 BK335; have hcz52_1 := vZ1 BK335; have hfz52_0 := kF BK335.out 0; have hfz52_1 := kF BK335.out 1; have hnb53 := NB328_324.out; have hnc53 := NB324_328.out; have hcz54_0 := vZ0 BK328; have hcz54_1 := vZ1 BK328; have hcz54_2 := vZ2 BK328; have hcz54_3 := vZ3 BK328; have hcz54_4 := vZ4 BK328; have hcz54_5 := vZ5 BK328; have hfz54_0 := kF BK328.out 0; have hfz54_1 := kF BK328.out 1; have hfz54_2 := kF BK328.out 2; have hfz54_3 := kF BK328.out 3; have hfz54_4 := kF BK328.out 4; have hfz54_5 := kF BK328.out 5
     try go_wp2_with (first | ((with_reducible refine gate_dst (N := 110) rfl ?_); have n0_ : Aside0 (((w49.setCell ⟨gb328, 0, none⟩ (.int .i64 (wrap64 (x5_5 + (wrap64 ((wrap64 (Int.tdiv (wrap64 ((Int.tmod (wrap64 ((Int.tmod t333 x336001_19) + x336001_19)) x336001_19) - t333)) x336001_19)) * x329002_19)))))).setCell ⟨gb328, 1, none⟩ (.int .i64 (wrap64 (x6_5 + (wrap64 ((wrap64 (Int.tdiv (wrap64 ((Int.tmod (wrap64 ((Int.tmod t333 x336001_19) + x336001_19)) x336001_19) - t333)) x336001_19)) * x329003_19)))))).heap[gb324]? = some (.cells #[.int .i64 t322, .int .i64 t323] 50 (0, 0))) := ⟨by refine blk_far ?_ NB324_328.out _; refine blk_far ?_ NB324_328.out _; exact BK324.out⟩; have n1_ : Aside0 (((w49.setCell ⟨gb328, 0, none⟩ (.int .i64 (wrap64 (x5_5 + (wrap64 ((wrap64 (Int.tdiv (wrap64 ((Int.tmod (wrap64 ((Int.tmod t333 x336001_19) + x336001_19)) x336001_19) - t333)) x336001_19)) * x329002_19)))))).setCell ⟨gb328, 1, none⟩ (.int .i64 (wrap64 (x6_5 + (wrap64 ((wrap64 (Int.tdiv (wrap64 ((Int.tmod (wrap64 ((Int.tmod t333 x336001_19) + x336001_19)) x336001_19) - t333)) x336001_19)) * x329003_19)))))).heap[gb328]? = some (.cells #[.int .i64 (wrap64 (x5_5 + (wrap64 ((wrap64 (Int.tdiv (wrap64 ((Int.tmod (wrap64 ((Int.tmod t333 x336001_19) + x336001_19)) x336001_19) - t333)) x336001_19)) * x329002_19)))), .int .i64 (wrap64 (x6_5 + (wrap64 ((wrap64 (Int.tdiv (wrap64 ((Int.tmod (wrap64 ((Int.tmod t333 x336001_19) + x336001_19)) x336001_19) - t333)) x336001_19)) * x329003_19)))), .int .i64 x329002_19, .int .i64 x329003_19, .int .i64 0, .int .i64 0] 36 (0, 0))) := ⟨by refine blk_put (cs := #[.int .i64 (wrap64 (x5_5 + (wrap64 ((wrap64 (Int.tdiv (wrap64 ((Int.tmod (wrap64 ((Int.tmod t333 x336001_19) + x336001_19)) x336001_19) - t333)) x336001_19)) * x329002_19)))), .int .i64 x6_5, .int .i64 x329002_19, .int .i64 x329003_19, .int .i64 0, .int .i64 0]) ?_ 1 _ rfl; refine blk_put (cs := #[.int .i64 x5_5, .int .i64 x6_5, .int .i64 x329002_19, .int .i64 x329003_19, .int .i64 0, .int .i64 0]) ?_ 0 _ rfl; exact BK328.out⟩; have n2_ : Aside0 (((w49.setCell ⟨gb328, 0, none⟩ (.int .i64 (wrap64 (x5_5 + (wrap64 ((wrap64 (Int.tdiv (wrap64 ((Int.tmod (wrap64 ((Int.tmod t333 x336001_19) + x336001_19)) x336001_19) - t333)) x336001_19)) * x329002_19)))))).setCell ⟨gb328, 1, none⟩ (.int .i64 (wrap64 (x6_5 + (wrap64 ((wrap64 (Int.tdiv (wrap64 ((Int.tmod (wrap64 ((Int.tmod t333 x336001_19) + x336001_19)) x336001_19) - t333)) x336001_19)) * x329003_19)))))).heap[gb335]? = some (.cells #[.int .i64 t333, .int .i64 x336001_19] 50 (0, 0))) := ⟨by refine blk_far ?_ NB335_328.out _; refine blk_far ?_ NB335_328.out _; exact BK335.out⟩; have n3_ : Aside0 (Below w.heap.size w ((w49.setCell ⟨gb328, 0, none⟩ (.int .i64 (wrap64 (x5_5 + (wrap64 ((wrap64 (Int.tdiv (wrap64 ((Int.tmod (wrap64 ((Int.tmod t333 x336001_19) + x336001_19)) x336001_19) - t333)) x336001_19)) * x329002_19)))))).setCell ⟨gb328, 1, none⟩ (.int .i64 (wrap64 (x6_5 + (wrap64 ((wrap64 (Int.tdiv (wrap64 ((Int.tmod (wrap64 ((Int.tmod t333 x336001_19) + x336001_19)) x336001_19) - t333)) x336001_19)) * x329003_19))))))) := ⟨by repeat (first | (with_reducible first | exact HB.out | refine pS ?_ GE328.out) | exact HB.out)⟩; clear BK324 BK328 BK335 HB; generalize ((w49.setCell ⟨gb328, 0, none⟩ (.int .i64 (wrap64 (x5_5 + (wrap64 ((wrap64 (Int.tdiv (wrap64 ((Int.tmod (wrap64 ((Int.tmod t333 x336001_19) + x336001_19)) x336001_19) - t333)) x336001_19)) * x329002_19)))))).setCell ⟨gb328, 1, none⟩ (.int .i64 (wrap64 (x6_5 + (wrap64 ((wrap64 (Int.tdiv (wrap64 ((Int.tmod (wrap64 ((Int.tmod t333 x336001_19) + x336001_19)) x336001_19) - t333)) x336001_19)) * x329003_19)))))) = settled_ at n0_ n1_ n2_ n3_ ⊢; have BK324 := n0_; have BK328 := n1_; have BK335 := n2_; have HB := n3_; clear n0_ n1_ n2_ n3_; refine Kd.R_makecap kd_impl_Peg _ 50 rfl (N := 110) rfl 24 _ _ rfl (l0.length : Int) rfl rfl Try.underlying24 (.agg #[(.int .i64 0), (.int .i64 0)]) 16 info50 rfl (by decide) (by omega) z_impl_Peg (ok := fun _ => True) (okp := fun _ => True) (kd_impl_Peg_mkM _ _ _ z_impl_Peg ) (fun _ hk => hk) trivial (dT aQ) (Nat.le_trans (Nat.mul_le_mul_right _ (dT aQ : (l0.length : Int).toNat ≤ 17592186044416)) (by omega)) (Below.refl _ _) (Nat.le_refl _) ?_; intro v337 w55 ho56 hb hg_ hnew_; clear hg_ hnew_; (first | rw [← Ny336.out] at ho56 | (simp only [Int.reduceToNat] at ho56; rw [← Ny336.out] at ho56)); have HO338 := aM (Kd.R_lower (Kd.R_newB (Kd.R_newB ho56 (g := gb324) (o := .cells #[.int .i64 t322, .int .i64 t323] 50 (0, 0)) (fQ BK324)) (g := gb335) (o := .cells #[.int .i64 t333, .int .i64 x336001_19] 50 (0, 0)) (fQ BK335)) (pZ bE)); replace BK324 := aM (blk_below (g := gb324) (o := .cells #[.int .i64 t322, .int .i64 t323] 50 (0, 0)) (fQ BK324) hb); replace BK328 := aM (blk_below (g := gb328) (o := .cells #[.int .i64 (wrap64 (x5_5 + (wrap64 ((wrap64 (Int.tdiv (wrap64 ((Int.tmod (wrap64 ((Int.tmod t333 x336001_19) + x336001_19)) x336001_19) - t333)) x336001_19)) * x329002_19)))), .int .i64 (wrap64 (x6_5 + (wrap64 ((wrap64 (Int.tdiv (wrap64 ((Int.tmod (wrap64 ((Int.tmod t333 x336001_19) + x336001_19)) x336001_19) - t333)) x336001_19)) * x329003_19)))), .int .i64 x329002_19, .int .i64 x329003_19, .int .i64 0, .int .i64 0] 36 (0, 0)) (fQ BK328) hb); replace BK335 := aM (blk_below (g := gb335) (o := .cells #[.int .i64 t333, .int .i64 x336001_19] 50 (0, 0)) (fQ BK335) hb); replace HB := tB HB hb; clear hb ho56))
     go_loopg [11, 113] kj19 (fun kq v11 v113 w' => ∃ (x11_3 : List (S_impl_Peg)) (x113_3 : Int), v113 = .int .i64 x113_3 ∧ Aside0 (impl_frame.l0 kq l0 x11_3 l0 (l0.length : Int) x113_3 (wrap64 (x5_5 + (wrap64 ((wrap64 (Int.tdiv (wrap64 ((Int.tmod (wrap64 ((Int.tmod t333 x336001_19) + x336001_19)) x336001_19) - t333)) x336001_19)) * x329002_19)))) (wrap64 (x6_5 + (wrap64 ((wrap64 (Int.tdiv (wrap64 ((Int.tmod (wrap64 ((Int.tmod t333 x336001_19) + x336001_19)) x336001_19) - t333)) x336001_19)) * x329003_19)))) x329002_19 x329003_19 0 0 = some r) ∧ Aside0 (kq ≤ kj19) ∧ Aside0 (Kd.R kd_impl_Peg 50 w' w.heap.size (fun k_ => k_ ≠ gb324 ∧ k_ ≠ gb335) v11 x11_3) ∧ Aside0 (w'.heap[gb324]? = some (.cells #[.int .i64 t322, .int .i64 t323] 50 (0, 0))) ∧ Aside0 (w'.heap[gb328]? = some (.cells #[.int .i64 (wrap64 (x5_5 + (wrap64 ((wrap64 (Int.tdiv (wrap64 ((Int.tmod (wrap64 ((Int.tmod t333 x336001_19) + x336001_19)) x336001_19) - t333)) x336001_19)) * x329002_19)))), .int .i64 (wrap64 (x6_5 + (wrap64 ((wrap64 (Int.tdiv (wrap64 ((Int.tmod (wrap64 ((Int.tmod t333 x336001_19) + x336001_19)) x336001_19) - t333)) x336001_19)) * x329003_19)))), .int .i64 x329002_19, .int .i64 x329003_19, .int .i64 0, .int .i64 0] 36 (0, 0))) ∧ Aside0 (w'.heap[gb335]? = some (.cells #[.int .i64 t333, .int .i64 x336001_19] 50 (0, 0))) ∧ Aside0 (Below w.heap.size w w'))
     case atStart => exact ⟨(y336), (0), eQ, H', ⟨Nat.le_refl _⟩, ⟨by (with_reducible repeat (first | apply rA | apply rN | apply rD)); exact Kd.R_mono HO338.out (fun _ hk => ⟨hk.1.2, hk.2⟩)⟩, ⟨gQ BK324⟩, ⟨gQ BK328⟩, ⟨gQ BK335⟩, ⟨bE⟩⟩
     case round =>
      clear H'; (try clear c3); (try clear c46); (try clear c46b0); (try clear c46b1); (try clear c47); (try clear c47b0); (try clear c47b1); (try clear c48); (try clear c48b0); (try clear c48b1); (try clear hcz39_0); (try clear hcz39_1); (try clear hcz52_0); (try clear hcz52_1); (try clear hcz54_0); (try clear hcz54_1); (try clear hcz54_2); (try clear hcz54_3); (try clear hcz54_4); (try clear hcz54_5); (try clear hfz39_0); (try clear hfz39_1); (try clear hfz52_0); (try clear hfz52_1); (try clear hfz54_0); (try clear hfz54_1); (try clear hfz54_2); (try clear hfz54_3); (try clear hfz54_4); (try clear hfz54_5); (try clear hx329_0); (try clear hx329_1); (try clear hx330_0); (try clear hx330_1); (try clear p329); (try clear p330); (try clear q329); (try clear q330); obtain ⟨x11_3, x113_3, rfl, HA, HK3, HO_11, BK324, BK328, BK335, HB⟩ := hrel
      cases gk with
      | zero => exact absurd HA.out (by simp [impl_frame.l0])
      | succ k3 =>
       have H := HA.out; clear HA
       simp only [impl_frame.l0] at H
       by_cases c57 : x113_3 < (l0.length : Int)
       ·rw [if_pos c57] at H; have c57b0 := dE c57; clear c57; replace H := iD H; obtain ⟨c58b0, H⟩ := H; replace H := iD H; obtain ⟨c59b0, H⟩ := H; replace H := iN H; obtain ⟨c60, H⟩ := H; have c60b0 := dE c60; have c60b1 : decide (0 < l0.length) = true := dE (by omega)
        clear c60; replace H := bS H; obtain ⟨⟨t342, t343⟩, A61, H⟩ := H; replace H := bS H; obtain ⟨⟨t344, t345⟩, A62, H⟩ := H; replace H := iN H; obtain ⟨c63, H⟩ := H; have LMc63 := aM c63; clear c63; obtain ⟨y346, hy346⟩ : ∃ y_ : List (S_impl_Peg), y_ = (x11_3 ++ [(⟨t344, t345⟩ : S_impl_Peg)]) := ⟨_, rfl⟩; rw [← hy346] at H; have Ny346 := aM hy346; clear hy346; have H' := aM H; clear H; have p339 : 0 ≤ (x113_3 : Int) := dT aQ; have q339 : x113_3 < (l0.length : Int) := dT aQ; obtain ⟨ad339, e339, hx339_0, hx339_1⟩ := at_impl_Peg HR0.out x113_3 p339 q339; obtain rfl : ad320 = ad339 := (by injection e339)
        replace hx339_0 := hC HB hx339_0; replace hx339_1 := hC HB hx339_1; replace p339 := eq_true p339; replace q339 := eq_true q339
        try go_wp2_with (first | ((with_reducible refine gate_dst (N := 13) rfl ?_); refine bV 13 (cs := #[.int .i64 0, .int .i64 0]) (t := 50) rfl rfl (by first | (go_simp; done) | (go_simp; rfl)) ?_; intro gb340 hg w64 hbox hb; have BK340 := hbox; have GW340 := gZ HB hg; have GE340 := gZ HB hg; have NB324_340 := nG BK324 hg; have NB340_324 := nH BK324 hg; have NB328_340 := nG BK328 hg; have NB340_328 := nH BK328 hg; have NB335_340 := nG BK335 hg; have NB340_335 := nH BK335 hg; replace HO_11 := aM (Kd.R_below (Kd.R_elderB (by (with_reducible repeat (first | apply rA | apply rN | apply rD)); exact HO_11.out) gb340 (Nat.le_of_eq hg.symm)) hb); replace BK324 := bB BK324 hb; replace BK328 := bB BK328 hb; replace BK335 := bB BK335 hb; replace HB := tB HB hb; clear hb hbox hg; have hnb65 := NB340_324.out; have hnc65 := NB324_340.out; have hnb66 := NB340_328.out; have hnc66 := NB328_340.out; have hnb67 := NB340_335.out; have hnc67 := NB335_340.out; have hcz68_0 := vZ0 BK340; have hcz68_1 := vZ1 BK340; have hfz68_0 := kF BK340.out 0; have hfz68_1 := kF BK340.out 1))
        have n0_ : Aside0 (Kd.R kd_impl_Peg 50 ((w64.setCell ⟨gb340, 0, none⟩ (.int .i64 ((rd_impl_Peg l0 x113_3).f0))).setCell ⟨gb340, 1, none⟩ (.int .i64 ((rd_impl_Peg l0 x113_3).f1))) w.heap.size (fun k_ => k_ ≠ gb324 ∧ k_ ≠ gb335 ∧ k_ ≠ gb340) u11 x11_3) := ⟨by (with_reducible repeat (first | apply rA | apply rN | apply rD)); exact Kd.R_mono (Kd.R_far (p := ⟨gb340, 1, none⟩) (Kd.R_far (p := ⟨gb340, 0, none⟩) (Kd.R_mono HO_11.out (fun k_ hk => (⟨hk, hk.2⟩ : _ ∧ k_ ≠ gb340))) (fun _ hk => hk.2) (.int .i64 ((rd_impl_Peg l0 x113_3).f0))) (fun _ hk => hk.2) (.int .i64 ((rd_impl_Peg l0 x113_3).f1))) (fun _ hk => ⟨hk.1.1.1, ⟨hk.1.1.2, hk.1.2⟩⟩)⟩
        have n1_ : Aside0 (((w64.setCell ⟨gb340, 0, none⟩ (.int .i64 ((rd_impl_Peg l0 x113_3).f0))).setCell ⟨gb340, 1, none⟩ (.int .i64 ((rd_impl_Peg l0 x113_3).f1))).heap[gb324]? = some (.cells #[.int .i64 t322, .int .i64 t323] 50 (0, 0))) := ⟨fQ BK324⟩; have n2_ : Aside0 (((w64.setCell ⟨gb340, 0, none⟩ (.int .i64 ((rd_impl_Peg l0 x113_3).f0))).setCell ⟨gb340, 1, none⟩ (.int .i64 ((rd_impl_Peg l0 x113_3).f1))).heap[gb328]? = some (.cells #[.int .i64 (wrap64 (x5_5 + (wrap64 ((wrap64 (Int.tdiv (wrap64 ((Int.tmod (wrap64 ((Int.tmod t333 x336001_19) + x336001_19)) x336001_19) - t333)) x336001_19)) * x329002_19)))), .int .i64 (wrap64 (x6_5 + (wrap64 ((wrap64 (Int.tdiv (wrap64 ((Int.tmod (wrap64 ((Int.tmod t333 x336001_19) + x336001_19)) x336001_19) - t333)) x336001_19)) * x329003_19)))), .int .i64 x329002_19, .int .i64 x329003_19, .int .i64 0, .int .i64 0] 36 (0, 0))) := ⟨fQ BK328⟩; have n3_ : Aside0 (((w64.setCell ⟨gb340, 0, none⟩ (.int .i64 ((rd_impl_Peg l0 x113_3).f0))).setCell ⟨gb340, 1, none⟩ (.int .i64 ((rd_impl_Peg l0 x113_3).f1))).heap[gb335]? = some (.cells #[.int .i64 t333, .int .i64 x336001_19] 50 (0, 0))) := ⟨fQ BK335⟩; have n4_ : Aside0 (((w64.setCell ⟨gb340, 0, none⟩ (.int .i64 ((rd_impl_Peg l0 x113_3).f0))).setCell ⟨gb340, 1, none⟩ (.int .i64 ((rd_impl_Peg l0 x113_3).f1))).heap[gb340]? = some (.cells #[.int .i64 ((rd_impl_Peg l0 x113_3).f0), .int .i64 ((rd_impl_Peg l0 x113_3).f1)] 50 (0, 0))) := ⟨fQ BK340⟩; have n5_ : Aside0 (Below w.heap.size w ((w64.setCell ⟨gb340, 0, none⟩ (.int .i64 ((rd_impl_Peg l0 x113_3).f0))).setCell ⟨gb340, 1, none⟩ (.int .i64 ((rd_impl_Peg l0 x113_3).f1)))) := ⟨bE⟩; (try clear HO_11); (try clear BK324); (try clear BK328); (try clear BK335); (try clear BK340); (try clear HB)
        generalize ((w64.setCell ⟨gb340, 0, none⟩ (.int .i64 ((rd_impl_Peg l0 x113_3).f0))).setCell ⟨gb340, 1, none⟩ (.int .i64 ((rd_impl_Peg l0 x113_3).f1))) = w69 at n0_ n1_ n2_ n3_ n4_ n5_ ⊢
        have HO_11 := n0_; have BK324 := n1_; have BK328 := n2_; have BK335 := n3_; have BK340 := n4_; have HB := n5_; clear n0_ n1_ n2_ n3_ n4_ n5_; replace HO_11 := aM (rD HO_11.out); replace BK324 := aM (kD BK324.out); replace BK328 := aM (kD BK328.out); replace BK335 := aM (kD BK335.out); replace BK340 := aM (kD BK340.out); replace HB := aM (pD HB.out); have p341 : 0 ≤ (0 : Int) := (by omega)
        have q341 : 0 < (l0.length : Int) := dT aQ; obtain ⟨ad341, e341, hx341_0, hx341_1⟩ := at_impl_Peg HR0.out 0 p341 q341; have hw341_1 := hx341_1
        (try rw [show ((0 : Int)).toNat = 0 from rfl] at hw341_1)
        (try rw [show 0 * 2 = 0 from rfl] at hw341_1)
        (try rw [Addr.add_zero'] at hw341_1)
        have hw341_0 := hx341_0
        (try rw [show ((0 : Int)).toNat = 0 from rfl] at hw341_0)
        (try rw [show 0 * 2 = 0 from rfl] at hw341_0)
        (try rw [Addr.add_zero'] at hw341_0)
        obtain rfl : ad320 = ad341 := (by injection e341)
        have qi341 : (0 < l0.length) = True := eq_true (by omega)
        (try rw [show ((0 : Int)).toNat = 0 from rfl] at hx341_0)
        (try rw [show 0 * 2 = 0 from rfl] at hx341_0)
        (try rw [Addr.add_zero'] at hx341_0)
        (try rw [show ((0 : Int)).toNat = 0 from rfl] at hx341_1)
        (try rw [show 0 * 2 = 0 from rfl] at hx341_1)
        (try rw [Addr.add_zero'] at hx341_1)
        replace hx341_0 := hC HB hx341_0; replace hx341_1 := hC HB hx341_1; replace p341 := eq_true p341; replace q341 := eq_true q341
        refine start_ (n := 11) (S := fun w' => w'.cell? ⟨gb328, 0, none⟩ = some (.int .i64 (wrap64 (x5_5 + (wrap64 ((wrap64 (Int.tdiv (wrap64 ((Int.tmod (wrap64 ((Int.tmod t333 x336001_19) + x336001_19)) x336001_19) - t333)) x336001_19)) * x329002_19))))) ∧ w'.cell? ⟨gb328, 1, none⟩ = some (.int .i64 (wrap64 (x6_5 + (wrap64 ((wrap64 (Int.tdiv (wrap64 ((Int.tmod (wrap64 ((Int.tmod t333 x336001_19) + x336001_19)) x336001_19) - t333)) x336001_19)) * x329003_19))))) ∧ w'.cell? ⟨gb328, 2, none⟩ = some (.int .i64 x329002_19) ∧ w'.cell? ⟨gb328, 3, none⟩ = some (.int .i64 x329003_19) ∧ w'.cell? ⟨gb328, 4, none⟩ = some (.int .i64 0) ∧ w'.cell? ⟨gb328, 5, none⟩ = some (.int .i64 0) ∧ w'.cell? ⟨gb340, 0, none⟩ = some (.int .i64 ((rd_impl_Peg l0 x113_3).f0)) ∧ w'.cell? ⟨gb340, 1, none⟩ = some (.int .i64 ((rd_impl_Peg l0 x113_3).f1)) ∧ w'.cell? ad320 = some (.int .i64 ((rd_impl_Peg l0 0).f0)) ∧ w'.cell? ⟨ad320.block, ad320.off + 1, none⟩ = some (.int .i64 ((rd_impl_Peg l0 0).f1))) (ds := []) (bA 11 0) kR rfl kR ⟨vZ0 BK328, vZ1 BK328, vZ2 BK328, vZ3 BK328, vZ4 BK328, vZ5 BK328, vZ0 BK340, vZ1 BK340, (hC HB hw341_0 :), (hC HB hw341_1 :)⟩ (fun hHeld => ?_); refine with_tabW impl_frame.tab16 impl_frame.bits16 (fun HT_ HW_ => ?_)
        generalize w69.drew = w70 at HO_11 BK324 BK328 BK335 BK340 HB hx341_0 hx341_1 hHeld ⊢
        refine pU 0 117 (bA 11 1) HT_ ?_; refine pU 3 120 (bA 11 9) HT_ ?_; refine pU 4 121 (bA 11 25) HT_ ?_
        refine tU 1 118 (bA 11 27) HT_ HW_ hHeld ?_ (hy := Or.inl ⟨by rfl, by rintro w' ⟨s0, s1, s2, s3, s4, s5, s6, s7, s8, s9⟩; go_simp; with_reducible rfl⟩)
        refine tU 2 119 (bA 11 31) HT_ HW_ hHeld ?_ (hy := Or.inl ⟨by rfl, by rintro w' ⟨s0, s1, s2, s3, s4, s5, s6, s7, s8, s9⟩; go_simp; with_reducible rfl⟩)
        refine tU 5 122 (bA 11 63) HT_ HW_ hHeld ?_ (hy := Or.inl ⟨by rfl, by rintro w' ⟨s0, s1, s2, s3, s4, s5, s6, s7, s8, s9⟩; go_simp; with_reducible rfl⟩)
        refine oU 6 123 (bA 11 127) HT_ (fun K hK => ?_)
        refine goes_ Try.func65 kR rfl #[.agg #[.int .i64 ((rd_impl_Peg l0 x113_3).f0), .int .i64 ((rd_impl_Peg l0 x113_3).f1)], .agg #[.int .i64 ((rd_impl_Peg l0 0).f0), .int .i64 ((rd_impl_Peg l0 0).f1)]] (by rfl) rfl rfl sQ ?_
        with_reducible refine (impl_Peg_less.calls ((rd_impl_Peg l0 x113_3).f0) ((rd_impl_Peg l0 x113_3).f1) ((rd_impl_Peg l0 0).f0) ((rd_impl_Peg l0 0).f1) t342 t343 _ A61.out).mono ?_
        rintro e w71 ⟨rfl, hb⟩; refine ⟨_, rfl, ?_⟩; replace HO_11 := aM (Kd.R_below (by (with_reducible repeat (first | apply rA | apply rN | apply rD)); exact HO_11.out) hb); replace BK324 := bB BK324 hb; replace BK328 := bB BK328 hb; replace BK335 := bB BK335 hb; replace BK340 := bB BK340 hb; replace HB := tB HB hb
        (try clear hb); (try clear hb2); (try clear hk); (try clear hi)
        refine hK.out _ _ ⟨vZ0 BK328, vZ1 BK328, vZ2 BK328, vZ3 BK328, vZ4 BK328, vZ5 BK328, vZ0 BK340, vZ1 BK340, (hC HB hw341_0 :), (hC HB hw341_1 :)⟩ (fun hHeld => ?_)
        clear hK K
        refine nU ?_
        refine oU 7 124 (bA 11 255) HT_ (fun K hK => ?_)
        refine goes_ Try.func68 kR rfl #[.agg #[.int .i64 (wrap64 (x5_5 + (wrap64 ((wrap64 (Int.tdiv (wrap64 ((Int.tmod (wrap64 ((Int.tmod t333 x336001_19) + x336001_19)) x336001_19) - t333)) x336001_19)) * x329002_19)))), .int .i64 (wrap64 (x6_5 + (wrap64 ((wrap64 (Int.tdiv (wrap64 ((Int.tmod (wrap64 ((Int.tmod t333 x336001_19) + x336001_19)) x336001_19) - t333)) x336001_19)) * x329003_19)))), .int .i64 x329002_19, .int .i64 x329003_19, .int .i64 0, .int .i64 0], .agg #[.int .i64 t342, .int .i64 t343]] (by rfl) rfl rfl sQ ?_
        with_reducible refine (impl_Move_bring.calls (wrap64 (x5_5 + (wrap64 ((wrap64 (Int.tdiv (wrap64 ((Int.tmod (wrap64 ((Int.tmod t333 x336001_19) + x336001_19)) x336001_19) - t333)) x336001_19)) * x329002_19)))) (wrap64 (x6_5 + (wrap64 ((wrap64 (Int.tdiv (wrap64 ((Int.tmod (wrap64 ((Int.tmod t333 x336001_19) + x336001_19)) x336001_19) - t333)) x336001_19)) * x329003_19)))) x329002_19 x329003_19 0 0 t342 t343 t344 t345 _ A62.out).mono ?_
        rintro e w72 ⟨rfl, hb⟩; refine ⟨_, rfl, ?_⟩; replace HO_11 := aM (Kd.R_below (by (with_reducible repeat (first | apply rA | apply rN | apply rD)); exact HO_11.out) hb); replace BK324 := bB BK324 hb; replace BK328 := bB BK328 hb; replace BK335 := bB BK335 hb; replace BK340 := bB BK340 hb; replace HB := tB HB hb
        (try clear hb); (try clear hb2); (try clear hk); (try clear hi)
        refine hK.out _ _ ⟨vZ0 BK328, vZ1 BK328, vZ2 BK328, vZ3 BK328, vZ4 BK328, vZ5 BK328, vZ0 BK340, vZ1 BK340, (hC HB hw341_0 :), (hC HB hw341_1 :)⟩ (fun hHeld => ?_)
        clear hK K
        refine nU ?_
        refine oU 8 125 (bA 11 511) HT_ (fun K hK => ?_)
        refine value_ (w1 := ?_) (v := ?_) (by rfl) rfl ?_ ?_
        rotate_left 2
        ·go_simp
         constructor
         ·rfl
         ·rfl
        refine hK.out _ _ ⟨(kC (kA BK328.out _) 0).trans rfl, (kC (kA BK328.out _) 1).trans rfl, (kC (kA BK328.out _) 2).trans rfl, (kC (kA BK328.out _) 3).trans rfl, (kC (kA BK328.out _) 4).trans rfl, (kC (kA BK328.out _) 5).trans rfl, (kC (kA BK340.out _) 0).trans rfl, (kC (kA BK340.out _) 1).trans rfl, (World.cell?_alloc_lt _ _ _ (wB _ _ ((hC HB hw341_0 :)))).trans ((hC HB hw341_0 :)), (World.cell?_alloc_lt _ _ _ (wB _ _ ((hC HB hw341_1 :)))).trans ((hC HB hw341_1 :))⟩ (fun hHeld => ?_)
        clear hK K
        refine nU ?_
        refine oU 9 126 (bA 11 1023) HT_ (fun K hK => ?_)
        refine Kd.R_append_step kd_impl_Peg (w0 := w) w.heap.size (by rfl) (.tmp 117) (.tmp 125) 24 50 (.agg #[(.int .i64 0), (.int .i64 0)]) 16 rfl Try.underlying24 info50 rfl (by decide) (by omega) u11 x11_3 (⟨t344, t345⟩ : S_impl_Peg) [.int .i64 t344, .int .i64 t345] (fun k_ => k_ ≠ gb324 ∧ k_ ≠ gb335 ∧ k_ ≠ gb340) (fun _ => False) rfl rfl ?aP (fun _ hk => hk.elim) ?aF ?aO ?aB ?aS ?aL ?_
        (case aP => exact kd_impl_Peg_mkM _ _ _ (⟨t344, t345⟩ : S_impl_Peg))
        (case aB => exact bE)
        (case aF => exact (fun k_ hk => ⟨Kd.freshB (g := gb324) (o := .cells #[.int .i64 t322, .int .i64 t323] 50 (0, 0)) (gQ BK324) k_ hk, Kd.freshB (g := gb335) (o := .cells #[.int .i64 t333, .int .i64 x336001_19] 50 (0, 0)) (gQ BK335) k_ hk, Kd.freshB (g := gb340) (o := .cells #[.int .i64 ((rd_impl_Peg l0 x113_3).f0), .int .i64 ((rd_impl_Peg l0 x113_3).f1)] 50 (0, 0)) (gQ BK340) k_ hk⟩))
        (case aO => exact (by (with_reducible repeat (first | apply rA | apply rN | apply rD)); exact HO_11.out))
        (case aS => exact (pZ bE))
        (case aL => have := LMc63.out; omega)
        intro v347 w73 ho hb hg hat
        rw [← Ny346.out] at ho; have n0_ := aM (blk_grown (g := gb324) (o := .cells #[.int .i64 t322, .int .i64 t323] 50 (0, 0)) (gQ BK324) hg (Kd.R_away HO_11.out (fun _ hk => hk.1))); have n1_ := aM (blk_grown (g := gb328) (o := .cells #[.int .i64 (wrap64 (x5_5 + (wrap64 ((wrap64 (Int.tdiv (wrap64 ((Int.tmod (wrap64 ((Int.tmod t333 x336001_19) + x336001_19)) x336001_19) - t333)) x336001_19)) * x329002_19)))), .int .i64 (wrap64 (x6_5 + (wrap64 ((wrap64 (Int.tdiv (wrap64 ((Int.tmod (wrap64 ((Int.tmod t333 x336001_19) + x336001_19)) x336001_19) - t333)) x336001_19)) * x329003_19)))), .int .i64 x329002_19, .int .i64 x329003_19, .int .i64 0, .int .i64 0] 36 (0, 0)) (gQ BK328) hg (Kd.R_ne HO_11.out BK328.out (by decide)))
        have n2_ := aM (blk_grown (g := gb335) (o := .cells #[.int .i64 t333, .int .i64 x336001_19] 50 (0, 0)) (gQ BK335) hg (Kd.R_away HO_11.out (fun _ hk => hk.2.1))); have n3_ := aM (blk_grown (g := gb340) (o := .cells #[.int .i64 ((rd_impl_Peg l0 x113_3).f0), .int .i64 ((rd_impl_Peg l0 x113_3).f1)] 50 (0, 0)) (gQ BK340) hg (Kd.R_away HO_11.out (fun _ hk => hk.2.2))); have n4_ := aM (hb); have n5_ := aM (ho); clear BK324; clear BK328; clear BK335; clear BK340; clear HB; clear HO_11; have BK324 := n0_; have BK328 := n1_; have BK335 := n2_; have BK340 := n3_; have HB := n4_; have HO348 := n5_; clear n0_ n1_ n2_ n3_ n4_ n5_; clear ho hb hg hat
        refine hK.out _ _ ⟨vZ0 BK328, vZ1 BK328, vZ2 BK328, vZ3 BK328, vZ4 BK328, vZ5 BK328, vZ0 BK340, vZ1 BK340, (hC HB hw341_0 :), (hC HB hw341_1 :)⟩ (fun hHeld => ?_)
        clear hK K
        refine nU ?_
        refine pU 10 11 (bA 11 2047) HT_ ?_
        refine done_ (done_of HT_.out kR) ?_
        try go_wp2
        go_roundg k3
        case measure => have := HJ5.out; have := HJ19.out; have := HK3.out; omega
        case rel => exact ⟨(y346), (wrap64 (x113_3 + 1)), eQ, H', ⟨by have := HJ5.out; have := HJ19.out; have := HK3.out; omega⟩, ⟨by (with_reducible repeat (first | apply rA | apply rN | apply rD)); exact Kd.R_mono HO348.out (fun _ hk => ⟨hk.1, hk.2.1⟩)⟩, ⟨gQ BK324⟩, ⟨gQ BK328⟩, ⟨gQ BK335⟩, ⟨bE⟩⟩
       ·rw [if_neg c57] at H; have c57b0 := decide_eq_false c57; clear c57; obtain rfl := Option.some.inj H; go_wp2
        go_ret
        exact ⟨_, by first | rfl | (simp [errW_none, errW_some] <;> rfl) | (simp [*, errW_none, errW_some] <;> rfl), by (with_reducible repeat (first | apply rA | apply rN | apply rD)); exact Kd.R_mono HO_11.out (fun _ hk => trivial), bE⟩
end Go.Proofs.Ytfihohongkfibaa.X
