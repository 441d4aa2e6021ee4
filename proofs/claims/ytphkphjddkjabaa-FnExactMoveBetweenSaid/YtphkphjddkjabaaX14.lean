-- thin
-- short
-- compact
import Derived.Test.YtphkphjddkjabaaXA
import Derived.Test.YtphkphjddkjabaaX0
import Derived.Test.YtphkphjddkjabaaX9
import Derived.Test.YtphkphjddkjabaaX13
import Derived.Test.YtphkphjddkjabaaXW2
namespace Go.Proofs.Ytphkphjddkjabaa.X
open Go.RowKit Go.Proofs.Ytphkphjddkjabaa.XW Go.Proofs.YtphkphjddkjabaaW.PrintWords Go.Proofs.YtphkphjddkjabaaW.PrintLast Go.Proofs.YtphkphjddkjabaaW.PrintMore
attribute [local go_sem] max2_int min2_int max_two min_two max_three min_three max_four min_four   -- for this text's walks alone
set_option linter.unusedVariables false
set_option linter.unusedSimpArgs false

mutual
def impl_frame.j0 : Nat → List (S_impl_Peg) → Int → Int → Int → Int → Int → Option ((List (S_impl_Peg)))
 | 0, _, _, _, _, _, _ => none
 | k + 1, x0, x4, x5, x6, x345000, x345001 => if x4 = 0 then (none) else (if 2 < (x0.length : Int) then (if 0 < (x0.length : Int) then ((impl_Peg_less.f ((rd_impl_Peg x0 2).f0) ((rd_impl_Peg x0 2).f1) ((rd_impl_Peg x0 0).f0) ((rd_impl_Peg x0 0).f1)).bind fun bt351 => ((impl_Move_bring.f x5 x6 (wrap64 (Int.tdiv (wrap64 (-x345001)) x4)) (wrap64 (Int.tdiv x345000 x4)) 0 0 bt351.1 bt351.2).bind fun bt353 => (if bt353.2 < 0 then (impl_frame.j1 k x0 x5 x6 (wrap64 (-(wrap64 (Int.tdiv (wrap64 (-x345001)) x4)))) (wrap64 (-(wrap64 (Int.tdiv x345000 x4)))) 0 0 bt353.1 (wrap64 (-bt353.2))) else (impl_frame.j1 k x0 x5 x6 (wrap64 (Int.tdiv (wrap64 (-x345001)) x4)) (wrap64 (Int.tdiv x345000 x4)) 0 0 bt353.1 bt353.2)))) else (none)) else (none))
def impl_frame.j1 : Nat → List (S_impl_Peg) → Int → Int → Int → Int → Int → Int → Int → Int → Option ((List (S_impl_Peg)))
 | 0, _, _, _, _, _, _, _, _, _ => none
 | k + 1, x0, x349000, x349001, x349002, x349003, x349004, x349005, x356000, x356001 => if x356001 = 0 then (none) else (if 0 ≤ (x0.length : Int) then (if ((x0.length : Int) : Int).toNat ≤ 17592186044416 then (impl_frame.l0 k x0 (([] : List (S_impl_Peg))) x0 (x0.length : Int) 0 (wrap64 (x349000 + (wrap64 ((wrap64 (Int.tdiv (wrap64 ((Int.tmod (wrap64 ((Int.tmod x356000 x356001) + x356001)) x356001) - x356000)) x356001)) * x349002)))) (wrap64 (x349001 + (wrap64 ((wrap64 (Int.tdiv (wrap64 ((Int.tmod (wrap64 ((Int.tmod x356000 x356001) + x356001)) x356001) - x356000)) x356001)) * x349003)))) x349002 x349003 x349004 x349005) else (none)) else (none))
def impl_frame.l0 : Nat → List (S_impl_Peg) → List (S_impl_Peg) → List (S_impl_Peg) → Int → Int → Int → Int → Int → Int → Int → Int → Option ((List (S_impl_Peg)))
 | 0, _, _, _, _, _, _, _, _, _, _, _ => none
 | k + 1, x0, x11, x111, x112, x113, x349000, x349001, x349002, x349003, x349004, x349005 => if x113 < x112 then (if 0 ≤ x113 then (if x113 < (x111.length : Int) then (if 0 < (x0.length : Int) then ((impl_Peg_less.f ((rd_impl_Peg x111 x113).f0) ((rd_impl_Peg x111 x113).f1) ((rd_impl_Peg x0 0).f0) ((rd_impl_Peg x0 0).f1)).bind fun bt362 => ((impl_Move_bring.f x349000 x349001 x349002 x349003 x349004 x349005 bt362.1 bt362.2).bind fun bt364 => (if x11.length < 8796093022208 then (impl_frame.l0 k x0 (x11 ++ [(⟨bt364.1, bt364.2⟩ : S_impl_Peg)]) x111 x112 (wrap64 (x113 + 1)) x349000 x349001 x349002 x349003 x349004 x349005) else (none)))) else (none)) else (none)) else (none)) else (some x11)
end
def impl_frame.f (k : Nat) (l0 : List (S_impl_Peg)) : Option ((List (S_impl_Peg))) := if 1 < (l0.length : Int) then (if 0 < (l0.length : Int) then ((impl_Peg_less.f ((rd_impl_Peg l0 1).f0) ((rd_impl_Peg l0 1).f1) ((rd_impl_Peg l0 0).f0) ((rd_impl_Peg l0 0).f1)).bind fun bt342 => ((impl_bezout.f k bt342.1 bt342.2).bind fun bt345 => (if bt345.1 < 0 then (impl_frame.j0 k l0 (wrap64 (-bt345.1)) (wrap64 (-bt345.2.1)) (wrap64 (-bt345.2.2)) bt342.1 bt342.2) else (impl_frame.j0 k l0 bt345.1 bt345.2.1 bt345.2.2 bt342.1 bt342.2)))) else (none)) else (none)
theorem impl_frame.mono_l : ∀ k, (∀ y0 y1 y2 y3 y4 y5, LeO (impl_frame.j0 k y0 y1 y2 y3 y4 y5) (impl_frame.j0 (k + 1) y0 y1 y2 y3 y4 y5)) ∧ (∀ y0 y1 y2 y3 y4 y5 y6 y7 y8, LeO (impl_frame.j1 k y0 y1 y2 y3 y4 y5 y6 y7 y8) (impl_frame.j1 (k + 1) y0 y1 y2 y3 y4 y5 y6 y7 y8)) ∧ (∀ y0 y1 y2 y3 y4 y5 y6 y7 y8 y9 y10, LeO (impl_frame.l0 k y0 y1 y2 y3 y4 y5 y6 y7 y8 y9 y10) (impl_frame.l0 (k + 1) y0 y1 y2 y3 y4 y5 y6 y7 y8 y9 y10))
 | 0 => ⟨fun _ _ _ _ _ _ r h => by simp [impl_frame.j0] at h, fun _ _ _ _ _ _ _ _ _ r h => by simp [impl_frame.j1] at h, fun _ _ _ _ _ _ _ _ _ _ _ r h => by simp [impl_frame.l0] at h⟩
 | k + 1 => by
  obtain ⟨ih0, ih1, ih2⟩ := impl_frame.mono_l k
  refine ⟨?_, ?_, ?_⟩ <;> intros <;> (first | unfold impl_frame.j0 | unfold impl_frame.j1 | unfold impl_frame.l0) <;> repeat' first | (with_reducible exact ih0 _ _ _ _ _ _) | (with_reducible exact ih1 _ _ _ _ _ _ _ _ _) | (with_reducible exact ih2 _ _ _ _ _ _ _ _ _ _ _) | (with_reducible exact impl_bezout.mono _ _ _) | (with_reducible exact LeO.refl _) | (with_reducible exact LeO.none _) | (with_reducible refine LeO.ite ?_ ?_) | (with_reducible refine LeO.bind ?_ (fun _ => ?_)) | exact ih0 _ _ _ _ _ _ | exact ih1 _ _ _ _ _ _ _ _ _ | exact ih2 _ _ _ _ _ _ _ _ _ _ _ | exact impl_bezout.mono _ _ _ | exact LeO.none _ | refine LeO.ite ?_ ?_ | refine LeO.bind ?_ (fun _ => ?_)
theorem impl_frame.mono : ∀ a0 k, LeO (impl_frame.f k a0) (impl_frame.f (k + 1) a0) := by
 intro a0 k
 obtain ⟨ih0, ih1, ih2⟩ := impl_frame.mono_l k
 unfold impl_frame.f
 repeat' first | (with_reducible exact ih0 _ _ _ _ _ _) | (with_reducible exact ih1 _ _ _ _ _ _ _ _ _) | (with_reducible exact ih2 _ _ _ _ _ _ _ _ _ _ _) | (with_reducible exact impl_bezout.mono _ _ _) | (with_reducible exact LeO.refl _) | (with_reducible exact LeO.none _) | (with_reducible refine LeO.ite ?_ ?_) | (with_reducible refine LeO.bind ?_ (fun _ => ?_)) | exact ih0 _ _ _ _ _ _ | exact ih1 _ _ _ _ _ _ _ _ _ | exact ih2 _ _ _ _ _ _ _ _ _ _ _ | exact impl_bezout.mono _ _ _ | exact LeO.none _ | refine LeO.ite ?_ ?_ | refine LeO.bind ?_ (fun _ => ?_)
def impl_frame.T1 : Bool × List (List Nat × List Nat) := (true, [([], []), ([0], [0]), ([1], [1]), ([], []), ([3], [3]), ([4], [4]), ([2, 5], [2, 5]), ([], []), ([7, 6, 6, 0, 1, 2, 3, 4, 5, 6, 7], [6, 7])])
def impl_frame.B1 : List Nat := [0, 1, 3, 0, 8, 24, 63, 0, 255]
theorem impl_frame.tab1 : rtab .any (opsOf Try.f16 1) = impl_frame.T1 := by kernel_rfl
theorem impl_frame.bits1 : waitsOk impl_frame.T1.2 impl_frame.B1 = true := by kernel_rfl
def impl_frame.T5 : Bool × List (List Nat × List Nat) := (true, [([], []), ([], []), ([], []), ([2], [2]), ([3], [3]), ([], []), ([4, 5], [4, 5]), ([], []), ([7], [7]), ([], []), ([8, 9], [8, 9]), ([0, 1, 6, 10], [0, 1, 6, 10]), ([], []), ([12, 11, 0, 1, 2, 3, 4, 5, 6, 7, 8, 9, 10, 11, 12], [11, 12])])
def impl_frame.B5 : List Nat := [0, 0, 0, 4, 12, 0, 60, 0, 128, 0, 896, 2047, 0, 8191]
theorem impl_frame.tab5 : rtab .any (opsOf Try.f16 5) = impl_frame.T5 := by kernel_rfl
theorem impl_frame.bits5 : waitsOk impl_frame.T5.2 impl_frame.B5 = true := by kernel_rfl
def impl_frame.T6 : Bool × List (List Nat × List Nat) := (true, [([], []), ([], []), ([1], [1]), ([2], [2]), ([], []), ([4], [4]), ([5], [5]), ([3, 6], [3, 6]), ([0, 7, 7], [0, 7]), ([], []), ([9, 8, 8, 0, 1, 2, 3, 4, 5, 6, 7, 8, 9], [8, 9])])
def impl_frame.B6 : List Nat := [0, 0, 2, 6, 0, 16, 48, 126, 255, 0, 1023]
theorem impl_frame.tab6 : rtab .any (opsOf Try.f16 6) = impl_frame.T6 := by kernel_rfl
theorem impl_frame.bits6 : waitsOk impl_frame.T6.2 impl_frame.B6 = true := by kernel_rfl
def impl_frame.T9 : Bool × List (List Nat × List Nat) := (true, [([], []), ([0], [0]), ([], []), ([2], [2]), ([1, 3], [1, 3]), ([], []), ([5], [5]), ([4, 6], [4, 6]), ([], []), ([8], [8]), ([7, 9], [7, 9]), ([10, 0, 1, 2, 3, 4, 5, 6, 7, 8, 9, 10], [10])])
def impl_frame.B9 : List Nat := [0, 1, 0, 4, 15, 0, 32, 127, 0, 256, 1023, 2047]
theorem impl_frame.tab9 : rtab .any (opsOf Try.f16 9) = impl_frame.T9 := by kernel_rfl
theorem impl_frame.bits9 : waitsOk impl_frame.T9.2 impl_frame.B9 = true := by kernel_rfl
def impl_frame.T16 : Bool × List (List Nat × List Nat) := (true, [([], []), ([], []), ([], []), ([], []), ([3], [3]), ([4], [4]), ([2, 5], [2, 5]), ([1, 6, 6], [1, 6]), ([7], [7]), ([0, 8, 7], [0, 8]), ([9, 9, 0, 1, 2, 3, 4, 5, 6, 7, 8, 9], [0, 9])])
def impl_frame.B16 : List Nat := [0, 0, 0, 0, 8, 24, 60, 126, 254, 511, 1023]
theorem impl_frame.tab16 : rtab .any (opsOf Try.f16 16) = impl_frame.T16 := by kernel_rfl
theorem impl_frame.bits16 : waitsOk impl_frame.T16.2 impl_frame.B16 = true := by kernel_rfl
def impl_frame.T8 : Bool × List (List Nat × List Nat) := (true, [([], []), ([0], [0]), ([1], [1]), ([], []), ([3], [3]), ([4], [4]), ([], []), ([6], [6]), ([7], [7]), ([0, 1, 2, 3, 4], []), ([9, 2, 0, 1, 2, 3, 4], [2, 9]), ([0, 1, 2, 3, 4, 5, 9, 10], []), ([11, 5, 10, 0, 1, 2, 3, 4, 5, 9, 10], [5, 11]), ([0, 1, 2, 3, 4, 5, 6, 7, 8, 9, 10, 11, 12], []), ([13, 8, 12, 0, 1, 2, 3, 4, 5, 6, 7, 8, 9, 10, 11, 12], [8, 13])])
def impl_frame.B8 : List Nat := [0, 1, 3, 0, 8, 24, 0, 64, 192, 31, 543, 1599, 3647, 8191, 16383]
theorem impl_frame.tab8 : rtab .any (opsOf Try.f16 8) = impl_frame.T8 := by kernel_rfl
theorem impl_frame.bits8 : waitsOk impl_frame.T8.2 impl_frame.B8 = true := by kernel_rfl
set_option maxHeartbeats 8000000 in
set_option maxRecDepth 100000 in
theorem impl_frame.calls (k : Nat) (A0 : Option Addr) (c0 : Nat) (l0 : List (S_impl_Peg)) (r : List (S_impl_Peg)) (w : World) (hr0 : Kd.C kd_impl_Peg w A0 l0.length l0) (hc0 : l0.length ≤ c0) (h : impl_frame.f k l0 = some r) :
  Calls Try.prog 16 #[.slice A0 l0.length c0] w fun e w' => ∃ v0_ : Value, e = .returned (v0_) ∧ Kd.R kd_impl_Peg 38 w' w.heap.size (fun _ => True) v0_ r ∧ Below w.heap.size w w' := by
 have hu38 := Try.underlying38; have hu25 := Try.underlying25; have HR0 := aM hr0; have HC0 := aM hc0; clear hr0 hc0; have HB := aM (Below.refl w.heap.size w)
 unfold impl_frame.f at h; have H := h; clear h
 replace H := iN H; obtain ⟨c2, H⟩ := H; have c2b0 := dE c2; have c2b1 : decide (1 < l0.length) = true := dE (by omega)
 clear c2; replace H := iN H; obtain ⟨c3, H⟩ := H; have c3b0 := dE c3; have c3b1 : decide (0 < l0.length) = true := dE (by omega)
 clear c3; replace H := bS H; obtain ⟨⟨t342, t343⟩, A4, H⟩ := H; replace H := bS H; obtain ⟨⟨t345, t346, t347⟩, A5, H⟩ := H; have HC6 := aM H; clear H
 go_enter Try.func16, Try.ntmps16
 try go_wp2
 replace HB := aM (pD HB.out); have p340 : 0 ≤ (1 : Int) := (by omega)
 have q340 : 1 < (l0.length : Int) := dT aQ; obtain ⟨ad340, e340, hx340_0, hx340_1⟩ := at_impl_Peg HR0.out 1 p340 q340; have hw340_1 := hx340_1
 (try rw [show ((1 : Int)).toNat = 1 from rfl] at hw340_1)
 (try rw [show 1 * 2 = 2 from rfl] at hw340_1)
 (try simp only [Nat.reduceMul, Nat.reduceEqDiff, Go.Addr.add, ↓reduceIte] at hw340_1)
 have hw340_0 := hx340_0
 (try rw [show ((1 : Int)).toNat = 1 from rfl] at hw340_0)
 (try rw [show 1 * 2 = 2 from rfl] at hw340_0)
 (try simp only [Nat.reduceMul, Nat.reduceEqDiff, Go.Addr.add, ↓reduceIte] at hw340_0)
 cases e340
 (try simp only [show (1 : Int).toNat = 1 from rfl, Nat.reduceMul, Nat.reduceEqDiff, Go.Addr.add, ↓reduceIte] at hx340_0)
 (try simp only [show (1 : Int).toNat = 1 from rfl, Nat.reduceMul, Nat.reduceEqDiff, Go.Addr.add, ↓reduceIte] at hx340_1)
 have qi340 : (1 < l0.length) = True := eq_true (by omega)
 (try rw [show ((1 : Int)).toNat = 1 from rfl] at hx340_0)
 (try rw [show 1 * 2 = 2 from rfl] at hx340_0)
 (try rw [show ((1 : Int)).toNat = 1 from rfl] at hx340_1)
 (try rw [show 1 * 2 = 2 from rfl] at hx340_1)
 replace hx340_0 := hC HB hx340_0; replace hx340_1 := hC HB hx340_1; replace p340 := eq_true p340; replace q340 := eq_true q340; have p341 : 0 ≤ (0 : Int) := (by omega)
 have q341 : 0 < (l0.length : Int) := dT aQ; obtain ⟨ad341, e341, hx341_0, hx341_1⟩ := at_impl_Peg HR0.out 0 p341 q341; have hw341_1 := hx341_1
 (try rw [show ((0 : Int)).toNat = 0 from rfl] at hw341_1)
 (try rw [show 0 * 2 = 0 from rfl] at hw341_1)
 (try rw [Addr.add_zero'] at hw341_1)
 have hw341_0 := hx341_0
 (try rw [show ((0 : Int)).toNat = 0 from rfl] at hw341_0)
 (try rw [show 0 * 2 = 0 from rfl] at hw341_0)
 (try rw [Addr.add_zero'] at hw341_0)
 obtain rfl : ad340 = ad341 := (by injection e341)
 have qi341 : (0 < l0.length) = True := eq_true (by omega)
 (try rw [show ((0 : Int)).toNat = 0 from rfl] at hx341_0)
 (try rw [show 0 * 2 = 0 from rfl] at hx341_0)
 (try rw [Addr.add_zero'] at hx341_0)
 (try rw [show ((0 : Int)).toNat = 0 from rfl] at hx341_1)
 (try rw [show 0 * 2 = 0 from rfl] at hx341_1)
 (try rw [Addr.add_zero'] at hx341_1)
 replace hx341_0 := hC HB hx341_0; replace hx341_1 := hC HB hx341_1; replace p341 := eq_true p341; replace q341 := eq_true q341
 refine start_ (n := 9) (S := fun w' => w'.cell? ⟨ad340.block, ad340.off + 2, none⟩ = some (.int .i64 ((rd_impl_Peg l0 1).f0)) ∧ w'.cell? ⟨ad340.block, ad340.off + 2 + 1, none⟩ = some (.int .i64 ((rd_impl_Peg l0 1).f1)) ∧ w'.cell? ad340 = some (.int .i64 ((rd_impl_Peg l0 0).f0)) ∧ w'.cell? ⟨ad340.block, ad340.off + 1, none⟩ = some (.int .i64 ((rd_impl_Peg l0 0).f1))) (ds := []) (bA 9 0) kR rfl kR ⟨(hC HB hw340_0 :), (hC HB hw340_1 :), (hC HB hw341_0 :), (hC HB hw341_1 :)⟩ (fun hHeld => ?_); refine with_tabW impl_frame.tab1 impl_frame.bits1 (fun HT_ HW_ => ?_)
 generalize w.drew = w7 at HB hx340_0 hx340_1 hx341_0 hx341_1 hHeld ⊢
 refine pU 0 14 (bA 9 1) HT_ ?_; refine pU 1 15 (bA 9 3) HT_ ?_; refine pU 3 17 (bA 9 11) HT_ ?_; refine pU 4 18 (bA 9 27) HT_ ?_
 refine tU 2 16 (bA 9 31) HT_ HW_ hHeld ?_ (hy := Or.inl ⟨by rfl, by rintro w' ⟨s0, s1, s2, s3⟩; go_simp; with_reducible rfl⟩)
 refine tU 5 19 (bA 9 63) HT_ HW_ hHeld ?_ (hy := Or.inl ⟨by rfl, by rintro w' ⟨s0, s1, s2, s3⟩; go_simp; with_reducible rfl⟩)
 refine join_ (σ := Nat) 1 (bA 9 255) (fun s_ => [(20, .agg #[.int .i64 t342, .int .i64 t343]), (3, .pointer (some ⟨s_, 0, none⟩))]) (fun s_ w' => (w'.cell? ⟨ad340.block, ad340.off + 2, none⟩ = some (.int .i64 ((rd_impl_Peg l0 1).f0)) ∧ w'.cell? ⟨ad340.block, ad340.off + 2 + 1, none⟩ = some (.int .i64 ((rd_impl_Peg l0 1).f1)) ∧ w'.cell? ad340 = some (.int .i64 ((rd_impl_Peg l0 0).f0)) ∧ w'.cell? ⟨ad340.block, ad340.off + 1, none⟩ = some (.int .i64 ((rd_impl_Peg l0 0).f1))) ∧ (w'.heap[s_]? = some (.cells #[.int .i64 0, .int .i64 0] 38 (0, 0))) ∧ (w.heap.size ≤ s_) ∧ (w.heap.size ≤ s_) ∧ (Below w.heap.size w w')) ?_ ?_
 rotate_left
 ·intro hCont
  refine two_ (i := 6) (j := 7) (Ni := some 20) (Nj := some 3) (bA 9 127) (bA 9 191) rfl rfl rfl rfl (two_of HT_.out kR) (by decide) (by decide) (fun K hK => ?_) (fun K hK => ?_)
  ·skip
   refine goes_ Try.func35 kR rfl #[.agg #[.int .i64 ((rd_impl_Peg l0 1).f0), .int .i64 ((rd_impl_Peg l0 1).f1)], .agg #[.int .i64 ((rd_impl_Peg l0 0).f0), .int .i64 ((rd_impl_Peg l0 0).f1)]] (by rfl) rfl rfl sQ ?_
   with_reducible refine (impl_Peg_less.calls ((rd_impl_Peg l0 1).f0) ((rd_impl_Peg l0 1).f1) ((rd_impl_Peg l0 0).f0) ((rd_impl_Peg l0 0).f1) t342 t343 _ A4.out).mono ?_
   rintro e w8 ⟨rfl, hb⟩; refine ⟨_, rfl, ?_⟩; replace HB := tB HB hb; (try clear hb); (try clear hb2); (try clear hk); (try clear hi)
   refine hK.out _ _ ⟨(hC HB hw340_0 :), (hC HB hw340_1 :), (hC HB hw341_0 :), (hC HB hw341_1 :)⟩ (fun hHeld => ?_)
   clear hK K
   refine nU ?_
   refine oU 7 3 (bA 9 255) HT_ (fun K hK => ?_)
   refine box_step ?hg (N := 3) ?hd (cs := #[.int .i64 0, .int .i64 0]) (t := 38) ?hr ?_; (case hd => rfl); (case hg => rfl); (case hr => first | (go_simp; done) | (go_simp; rfl))
   intro gb344 hg w9 hbox hb
   have BK344 := aM (hbox); have GW344 := gZ HB hg; have GE344 := gZ HB hg; replace HB := tB HB hb; clear hb hbox hg
   refine hK.out _ _ ⟨(hC HB hw340_0 :), (hC HB hw340_1 :), (hC HB hw341_0 :), (hC HB hw341_1 :)⟩ (fun hHeld => ?_)
   clear hK K
   refine nU ?_
   exact norm_ (by simp only [putAll, Act.put, sI, sZ, sS]) (hCont (gb344) _ ⟨hHeld, (gQ BK344), GW344.out, GE344.out, bE⟩)
  ·skip
   refine box_step ?hg (N := 3) ?hd (cs := #[.int .i64 0, .int .i64 0]) (t := 38) ?hr ?_; (case hd => rfl); (case hg => rfl); (case hr => first | (go_simp; done) | (go_simp; rfl))
   intro gb344 hg w8 hbox hb
   have BK344 := aM (hbox); have GW344 := gZ HB hg; have GE344 := gZ HB hg; replace HB := tB HB hb; clear hb hbox hg
   refine hK.out _ _ ⟨(hC HB hw340_0 :), (hC HB hw340_1 :), (hC HB hw341_0 :), (hC HB hw341_1 :)⟩ (fun hHeld => ?_)
   clear hK K
   refine nU ?_
   refine oU 6 20 (bA 9 255) HT_ (fun K hK => ?_)
   refine goes_ Try.func35 kR rfl #[.agg #[.int .i64 ((rd_impl_Peg l0 1).f0), .int .i64 ((rd_impl_Peg l0 1).f1)], .agg #[.int .i64 ((rd_impl_Peg l0 0).f0), .int .i64 ((rd_impl_Peg l0 0).f1)]] (by rfl) rfl rfl sQ ?_
   with_reducible refine (impl_Peg_less.calls ((rd_impl_Peg l0 1).f0) ((rd_impl_Peg l0 1).f1) ((rd_impl_Peg l0 0).f0) ((rd_impl_Peg l0 0).f1) t342 t343 _ A4.out).mono ?_
   rintro e w9 ⟨rfl, hb⟩; refine ⟨_, rfl, ?_⟩; replace BK344 := bB BK344 hb; replace HB := tB HB hb; (try clear hb); (try clear hb2); (try clear hk); (try clear hi)
   refine hK.out _ _ ⟨(hC HB hw340_0 :), (hC HB hw340_1 :), (hC HB hw341_0 :), (hC HB hw341_1 :)⟩ (fun hHeld => ?_)
   clear hK K
   refine nU ?_
   exact norm_ (by simp only [putAll, Act.put, sI, sZ, sS]) (hCont (gb344) _ ⟨hHeld, (gQ BK344), GW344.out, GE344.out, bE⟩)
 rintro gb344 w10 ⟨hS_, h0_, h1_, h2_, h3_⟩; have n0_ : Aside0 (w10.heap[gb344]? = some (.cells #[.int .i64 0, .int .i64 0] 38 (0, 0))) := ⟨h0_⟩; have n1_ : Aside0 (w.heap.size ≤ gb344) := ⟨h1_⟩; have n2_ : Aside0 (w.heap.size ≤ gb344) := ⟨h2_⟩; have n3_ : Aside0 (Below w.heap.size w w10) := ⟨h3_⟩; clear HB; clear h0_ h1_ h2_ h3_; have BK344 := n0_; have GW344 := n1_; have GE344 := n2_; have HB := n3_; clear n0_ n1_ n2_ n3_; have hHeld : w10.cell? ⟨ad340.block, ad340.off + 2, none⟩ = some (.int .i64 ((rd_impl_Peg l0 1).f0)) ∧ w10.cell? ⟨ad340.block, ad340.off + 2 + 1, none⟩ = some (.int .i64 ((rd_impl_Peg l0 1).f1)) ∧ w10.cell? ad340 = some (.int .i64 ((rd_impl_Peg l0 0).f0)) ∧ w10.cell? ⟨ad340.block, ad340.off + 1, none⟩ = some (.int .i64 ((rd_impl_Peg l0 0).f1)) := hS_
 refine norm_ (a' := ?_) ?_ ?_
 rotate_left
 ·simp only [putAll, Act.put, sI, sZ, sS]
  rfl
 refine one_ (i := 8) (N := none) (bA 9 511) rfl rfl (one_of HT_.out kR) (by decide) (fun K hK => ?_)
 have hs11 : w10.cell? ⟨gb344, 0, none⟩ = some (.int .i64 0) := vZ0 BK344; have hfs11 := kF BK344.out 0; have hs12 : w10.cell? ⟨gb344, 1, none⟩ = some (.int .i64 0) := vZ1 BK344; have hfs12 := kF BK344.out 1
 refine skip_ (w1 := ?_) (by rfl) rfl ?_ ?_
 rotate_left
 ·go_simp
  rfl
 refine hK.out _ _ ⟨((cell_far (p := ⟨gb344, _, none⟩) (by first | exact nN (nL (by have := wB _ _ hw340_0; first | rwa [add_block] at this | exact this) GW344.out) | (rw [add_block]; exact nN (nL (by have := wB _ _ hw340_0; first | rwa [add_block] at this | exact this) GW344.out)) | (show (Addr.add _ _).block ≠ _; rw [add_block]; exact nN (nL (by have := wB _ _ hw340_0; first | rwa [add_block] at this | exact this) GW344.out)) | (dsimp only; exact nN (nL (by have := wB _ _ hw340_0; first | rwa [add_block] at this | exact this) GW344.out))) _).trans (((cell_far (p := ⟨gb344, _, none⟩) (by first | exact nN (nL (by have := wB _ _ hw340_0; first | rwa [add_block] at this | exact this) GW344.out) | (rw [add_block]; exact nN (nL (by have := wB _ _ hw340_0; first | rwa [add_block] at this | exact this) GW344.out)) | (show (Addr.add _ _).block ≠ _; rw [add_block]; exact nN (nL (by have := wB _ _ hw340_0; first | rwa [add_block] at this | exact this) GW344.out)) | (dsimp only; exact nN (nL (by have := wB _ _ hw340_0; first | rwa [add_block] at this | exact this) GW344.out))) _).trans (hHeld.1)))), ((cell_far (p := ⟨gb344, _, none⟩) (by first | exact nN (nL (by have := wB _ _ hw340_1; first | rwa [add_block] at this | exact this) GW344.out) | (rw [add_block]; exact nN (nL (by have := wB _ _ hw340_1; first | rwa [add_block] at this | exact this) GW344.out)) | (show (Addr.add _ _).block ≠ _; rw [add_block]; exact nN (nL (by have := wB _ _ hw340_1; first | rwa [add_block] at this | exact this) GW344.out)) | (dsimp only; exact nN (nL (by have := wB _ _ hw340_1; first | rwa [add_block] at this | exact this) GW344.out))) _).trans (((cell_far (p := ⟨gb344, _, none⟩) (by first | exact nN (nL (by have := wB _ _ hw340_1; first | rwa [add_block] at this | exact this) GW344.out) | (rw [add_block]; exact nN (nL (by have := wB _ _ hw340_1; first | rwa [add_block] at this | exact this) GW344.out)) | (show (Addr.add _ _).block ≠ _; rw [add_block]; exact nN (nL (by have := wB _ _ hw340_1; first | rwa [add_block] at this | exact this) GW344.out)) | (dsimp only; exact nN (nL (by have := wB _ _ hw340_1; first | rwa [add_block] at this | exact this) GW344.out))) _).trans (hHeld.2.1)))), ((cell_far (p := ⟨gb344, _, none⟩) (by first | exact nN (nL (by have := wB _ _ hw341_0; first | rwa [add_block] at this | exact this) GW344.out) | (rw [add_block]; exact nN (nL (by have := wB _ _ hw341_0; first | rwa [add_block] at this | exact this) GW344.out)) | (show (Addr.add _ _).block ≠ _; rw [add_block]; exact nN (nL (by have := wB _ _ hw341_0; first | rwa [add_block] at this | exact this) GW344.out)) | (dsimp only; exact nN (nL (by have := wB _ _ hw341_0; first | rwa [add_block] at this | exact this) GW344.out))) _).trans (((cell_far (p := ⟨gb344, _, none⟩) (by first | exact nN (nL (by have := wB _ _ hw341_0; first | rwa [add_block] at this | exact this) GW344.out) | (rw [add_block]; exact nN (nL (by have := wB _ _ hw341_0; first | rwa [add_block] at this | exact this) GW344.out)) | (show (Addr.add _ _).block ≠ _; rw [add_block]; exact nN (nL (by have := wB _ _ hw341_0; first | rwa [add_block] at this | exact this) GW344.out)) | (dsimp only; exact nN (nL (by have := wB _ _ hw341_0; first | rwa [add_block] at this | exact this) GW344.out))) _).trans (hHeld.2.2.1)))), ((cell_far (p := ⟨gb344, _, none⟩) (by first | exact nN (nL (by have := wB _ _ hw341_1; first | rwa [add_block] at this | exact this) GW344.out) | (rw [add_block]; exact nN (nL (by have := wB _ _ hw341_1; first | rwa [add_block] at this | exact this) GW344.out)) | (show (Addr.add _ _).block ≠ _; rw [add_block]; exact nN (nL (by have := wB _ _ hw341_1; first | rwa [add_block] at this | exact this) GW344.out)) | (dsimp only; exact nN (nL (by have := wB _ _ hw341_1; first | rwa [add_block] at this | exact this) GW344.out))) _).trans (((cell_far (p := ⟨gb344, _, none⟩) (by first | exact nN (nL (by have := wB _ _ hw341_1; first | rwa [add_block] at this | exact this) GW344.out) | (rw [add_block]; exact nN (nL (by have := wB _ _ hw341_1; first | rwa [add_block] at this | exact this) GW344.out)) | (show (Addr.add _ _).block ≠ _; rw [add_block]; exact nN (nL (by have := wB _ _ hw341_1; first | rwa [add_block] at this | exact this) GW344.out)) | (dsimp only; exact nN (nL (by have := wB _ _ hw341_1; first | rwa [add_block] at this | exact this) GW344.out))) _).trans (hHeld.2.2.2))))⟩ (fun hHeld => ?_)
 clear hK K
 refine done_ (done_of HT_.out kR) ?_
 have hcz13_0 := vZ0 BK344; have hcz13_1 := vZ1 BK344; have hfz13_0 := kF BK344.out 0; have hfz13_1 := kF BK344.out 1
 go_upto_if 31 with (first | ((with_reducible refine gC (f := 36) rfl ?_); refine goesL_ (some 26) rfl rfl Try.func36 kR rfl #[.int .i64 t342, .int .i64 t343] rfl sQ ?_; (with_reducible refine (impl_bezout.calls k t342 t343 t345 t346 t347 _ A5.out).mono ?_); rintro e w' ⟨rfl, ⟨nd, rfl⟩⟩; refine ⟨_, rfl, ?_⟩))
 (try simp only [Act.put, sI, sZ, sS])
 go_cut [4, 5, 6] (fun v4 v5 v6 wc => ∃ (kq : Nat) (x4_5 : Int) (x5_5 : Int) (x6_5 : Int), v4 = .int .i64 x4_5 ∧ v5 = .int .i64 x5_5 ∧ v6 = .int .i64 x6_5 ∧ Aside0 (impl_frame.j0 kq l0 x4_5 x5_5 x6_5 t342 t343 = some r) ∧ Aside0 (kq ≤ k) ∧ Aside0 (wc.heap[gb344]? = some (.cells #[.int .i64 t342, .int .i64 t343] 38 (0, 0))) ∧ Aside0 (Below w.heap.size w wc))
 case first =>
  have H := HC6.out; clear HC6
  by_cases c14 : t345 < 0
  ·rw [if_pos c14] at H; have c14b0 := dE c14; clear c14
   (first | rw [c14b0] | (simp only [i64_w, i32_w]; rw [c14b0]) | skip)
   have H' := aM H; clear H; go_wp2
   go_meet
   case rel => exact ⟨_, (wrap64 (-t345)), (wrap64 (-t346)), (wrap64 (-t347)), eQ, eQ, eQ, H', ⟨by first | omega | exact Nat.le_refl _⟩, ⟨fQ BK344⟩, ⟨bE⟩⟩
  ·rw [if_neg c14] at H; have c14b0 := decide_eq_false c14; clear c14
   (first | rw [c14b0] | (simp only [i64_w, i32_w]; rw [c14b0]) | skip)
   have H' := aM H; clear H; go_wp2
   go_meet
   case rel => exact ⟨_, (t345), (t346), (t347), eQ, eQ, eQ, H', ⟨by first | omega | exact Nat.le_refl _⟩, ⟨fQ BK344⟩, ⟨bE⟩⟩
 case rest =>
  clear HC6; (try clear c2); (try clear c2b0); (try clear c2b1); (try clear c3); (try clear c3b0); (try clear c3b1); (try clear hcz13_0); (try clear hcz13_1); (try clear hfz13_0); (try clear hfz13_1); (try clear hx340_0); (try clear hx340_1); (try clear hx341_0); (try clear hx341_1); (try clear p340); (try clear p341); (try clear q340); (try clear q341); obtain ⟨kq, x4_5, x5_5, x6_5, rfl, rfl, rfl, HA, HJ5, BK344, HB⟩ := hcut
  cases kq with
  | zero => exact absurd HA.out (by simp [impl_frame.j0])
  | succ kj5 =>
   have H := HA.out; clear HA
   simp only [impl_frame.j0] at H
   replace H := iM H; obtain ⟨c15, H⟩ := H; have c15b0 : (x4_5 == 0) = false := beq_eq_false_iff_ne.mpr c15; have c15b1 : (x4_5 != 0) = true := bne_iff_ne.mpr c15; replace H := iN H; obtain ⟨c16, H⟩ := H; have c16b0 := dE c16; have c16b1 : decide (2 < l0.length) = true := dE (by omega)
   clear c16; replace H := iN H; obtain ⟨c17, H⟩ := H; have c17b0 := dE c17; have c17b1 : decide (0 < l0.length) = true := dE (by omega)
   clear c17; replace H := bS H; obtain ⟨⟨t351, t352⟩, A18, H⟩ := H; replace H := bS H; obtain ⟨⟨t353, t354⟩, A19, H⟩ := H; have HC20 := aM H; clear H
   try go_wp2
   replace BK344 := aM (kD BK344.out); replace HB := aM (pD HB.out)
   refine start_ (n := 14) (S := fun w' => w'.cell? ⟨gb344, 0, none⟩ = some (.int .i64 t342) ∧ w'.cell? ⟨gb344, 1, none⟩ = some (.int .i64 t343)) (ds := []) (bA 14 0) kR rfl kR ⟨vZ0 BK344, vZ1 BK344⟩ (fun hHeld => ?_); refine with_tabW impl_frame.tab5 impl_frame.bits5 (fun HT_ HW_ => ?_)
   generalize wc.drew = w21 at BK344 HB hHeld ⊢
   refine pU 0 38 (bA 14 1) HT_ ?_; refine pU 1 39 (bA 14 3) HT_ ?_; refine pU 2 40 (bA 14 7) HT_ ?_; refine pU 5 43 (bA 14 39) HT_ ?_; refine pU 7 45 (bA 14 167) HT_ ?_; refine pU 9 47 (bA 14 679) HT_ ?_
   refine tU 3 41 (bA 14 687) HT_ HW_ hHeld ?_ (hy := Or.inl ⟨by rfl, by rintro w' ⟨s0, s1⟩; go_simp; with_reducible rfl⟩)
   refine pU 4 42 (bA 14 703) HT_ ?_; refine pU 6 44 (bA 14 767) HT_ ?_
   refine tU 8 46 (bA 14 1023) HT_ HW_ hHeld ?_ (hy := Or.inl ⟨by rfl, by rintro w' ⟨s0, s1⟩; go_simp; with_reducible rfl⟩)
   refine pU 10 48 (bA 14 2047) HT_ ?_; refine pU 11 49 (bA 14 4095) HT_ ?_
   refine oU 12 7 (bA 14 8191) HT_ (fun K hK => ?_)
   refine box_step ?hg (N := 7) ?hd (cs := #[.int .i64 0, .int .i64 0, .int .i64 0, .int .i64 0, .int .i64 0, .int .i64 0]) (t := 25) ?hr ?_; (case hd => rfl); (case hg => rfl); (case hr => first | (go_simp; done) | (go_simp; rfl))
   intro gb348 hg w22 hbox hb
   have BK348 := aM (hbox); have GW348 := gZ HB hg; have GE348 := gZ HB hg; have NB344_348 := nG BK344 hg; have NB348_344 := nH BK344 hg; replace BK344 := bB BK344 hb; replace HB := tB HB hb; clear hb hbox hg
   refine hK.out _ _ ⟨vZ0 BK344, vZ1 BK344⟩ (fun hHeld => ?_)
   clear hK K
   refine nU ?_
   refine one_ (i := 13) (N := none) (bA 14 16383) rfl rfl (one_of HT_.out kR) (by decide) (fun K hK => ?_)
   have hs23 : w22.cell? ⟨gb348, 0, none⟩ = some (.int .i64 0) := vZ0 BK348; have hfs23 := kF BK348.out 0; have hns23_0 := NB344_348.out; have hms23_0 := NB348_344.out; have hs24 : w22.cell? ⟨gb348, 1, none⟩ = some (.int .i64 0) := vZ1 BK348; have hfs24 := kF BK348.out 1; have hns24_0 := NB344_348.out; have hms24_0 := NB348_344.out; have hs25 : w22.cell? ⟨gb348, 2, none⟩ = some (.int .i64 0) := vZ2 BK348; have hfs25 := kF BK348.out 2; have hns25_0 := NB344_348.out; have hms25_0 := NB348_344.out; have hs26 : w22.cell? ⟨gb348, 3, none⟩ = some (.int .i64 0) := vZ3 BK348; have hfs26 := kF BK348.out 3; have hns26_0 := NB344_348.out; have hms26_0 := NB348_344.out; have hs27 : w22.cell? ⟨gb348, 4, none⟩ = some (.int .i64 0) := vZ4 BK348; have hfs27 := kF BK348.out 4; have hns27_0 := NB344_348.out; have hms27_0 := NB348_344.out; have hs28 : w22.cell? ⟨gb348, 5, none⟩ = some (.int .i64 0) := vZ5 BK348; have hfs28 := kF BK348.out 5; have hns28_0 := NB344_348.out; have hms28_0 := NB348_344.out
   refine skip_ (w1 := ?_) (by rfl) rfl ?_ ?_
   rotate_left
   ·go_simp
    rfl
   refine hK.out _ _ ⟨((cell_far (p := ⟨gb348, _, none⟩) NB344_348.out _).trans (((cell_far (p := ⟨gb348, _, none⟩) NB344_348.out _).trans (((cell_far (p := ⟨gb348, _, none⟩) NB344_348.out _).trans (((cell_far (p := ⟨gb348, _, none⟩) NB344_348.out _).trans (((cell_far (p := ⟨gb348, _, none⟩) NB344_348.out _).trans (((cell_far (p := ⟨gb348, _, none⟩) NB344_348.out _).trans (hHeld.1)))))))))))), ((cell_far (p := ⟨gb348, _, none⟩) NB344_348.out _).trans (((cell_far (p := ⟨gb348, _, none⟩) NB344_348.out _).trans (((cell_far (p := ⟨gb348, _, none⟩) NB344_348.out _).trans (((cell_far (p := ⟨gb348, _, none⟩) NB344_348.out _).trans (((cell_far (p := ⟨gb348, _, none⟩) NB344_348.out _).trans (((cell_far (p := ⟨gb348, _, none⟩) NB344_348.out _).trans (hHeld.2))))))))))))⟩ (fun hHeld => ?_)
   clear hK K
   refine done_ (done_of HT_.out kR) ?_
   try go_wp2
   have n0_ : Aside0 (((((((w22.setCell ⟨gb348, 0, none⟩ (.int .i64 x5_5)).setCell ⟨gb348, 1, none⟩ (.int .i64 x6_5)).setCell ⟨gb348, 2, none⟩ (.int .i64 (wrap64 (Int.tdiv (wrap64 (-t343)) x4_5)))).setCell ⟨gb348, 3, none⟩ (.int .i64 (wrap64 (Int.tdiv t342 x4_5)))).setCell ⟨gb348, 4, none⟩ (.int .i64 0)).setCell ⟨gb348, 5, none⟩ (.int .i64 0)).heap[gb344]? = some (.cells #[.int .i64 t342, .int .i64 t343] 38 (0, 0))) := ⟨fQ BK344⟩; have n1_ : Aside0 (((((((w22.setCell ⟨gb348, 0, none⟩ (.int .i64 x5_5)).setCell ⟨gb348, 1, none⟩ (.int .i64 x6_5)).setCell ⟨gb348, 2, none⟩ (.int .i64 (wrap64 (Int.tdiv (wrap64 (-t343)) x4_5)))).setCell ⟨gb348, 3, none⟩ (.int .i64 (wrap64 (Int.tdiv t342 x4_5)))).setCell ⟨gb348, 4, none⟩ (.int .i64 0)).setCell ⟨gb348, 5, none⟩ (.int .i64 0)).heap[gb348]? = some (.cells #[.int .i64 x5_5, .int .i64 x6_5, .int .i64 (wrap64 (Int.tdiv (wrap64 (-t343)) x4_5)), .int .i64 (wrap64 (Int.tdiv t342 x4_5)), .int .i64 0, .int .i64 0] 25 (0, 0))) := ⟨fQ BK348⟩; have n2_ : Aside0 (Below w.heap.size w ((((((w22.setCell ⟨gb348, 0, none⟩ (.int .i64 x5_5)).setCell ⟨gb348, 1, none⟩ (.int .i64 x6_5)).setCell ⟨gb348, 2, none⟩ (.int .i64 (wrap64 (Int.tdiv (wrap64 (-t343)) x4_5)))).setCell ⟨gb348, 3, none⟩ (.int .i64 (wrap64 (Int.tdiv t342 x4_5)))).setCell ⟨gb348, 4, none⟩ (.int .i64 0)).setCell ⟨gb348, 5, none⟩ (.int .i64 0))) := ⟨bE⟩; (try clear BK344); (try clear BK348); (try clear HB)
   generalize ((((((w22.setCell ⟨gb348, 0, none⟩ (.int .i64 x5_5)).setCell ⟨gb348, 1, none⟩ (.int .i64 x6_5)).setCell ⟨gb348, 2, none⟩ (.int .i64 (wrap64 (Int.tdiv (wrap64 (-t343)) x4_5)))).setCell ⟨gb348, 3, none⟩ (.int .i64 (wrap64 (Int.tdiv t342 x4_5)))).setCell ⟨gb348, 4, none⟩ (.int .i64 0)).setCell ⟨gb348, 5, none⟩ (.int .i64 0)) = w29 at n0_ n1_ n2_ ⊢
   have BK344 := n0_; have BK348 := n1_; have HB := n2_; clear n0_ n1_ n2_; replace BK344 := aM (kD BK344.out); replace BK348 := aM (kD BK348.out); replace HB := aM (pD HB.out); have p349 : 0 ≤ (2 : Int) := (by omega)
   have q349 : 2 < (l0.length : Int) := dT aQ; obtain ⟨ad349, e349, hx349_0, hx349_1⟩ := at_impl_Peg HR0.out 2 p349 q349; have hw349_1 := hx349_1
   (try rw [show ((2 : Int)).toNat = 2 from rfl] at hw349_1)
   (try rw [show 2 * 2 = 4 from rfl] at hw349_1)
   (try simp only [Nat.reduceMul, Nat.reduceEqDiff, Go.Addr.add, ↓reduceIte] at hw349_1)
   have hw349_0 := hx349_0
   (try rw [show ((2 : Int)).toNat = 2 from rfl] at hw349_0)
   (try rw [show 2 * 2 = 4 from rfl] at hw349_0)
   (try simp only [Nat.reduceMul, Nat.reduceEqDiff, Go.Addr.add, ↓reduceIte] at hw349_0)
   obtain rfl : ad340 = ad349 := (by injection e349)
   (try simp only [show (2 : Int).toNat = 2 from rfl, Nat.reduceMul, Nat.reduceEqDiff, Go.Addr.add, ↓reduceIte] at hx349_0)
   (try simp only [show (2 : Int).toNat = 2 from rfl, Nat.reduceMul, Nat.reduceEqDiff, Go.Addr.add, ↓reduceIte] at hx349_1)
   have qi349 : (2 < l0.length) = True := eq_true (by omega)
   (try rw [show ((2 : Int)).toNat = 2 from rfl] at hx349_0)
   (try rw [show 2 * 2 = 4 from rfl] at hx349_0)
   (try rw [show ((2 : Int)).toNat = 2 from rfl] at hx349_1)
   (try rw [show 2 * 2 = 4 from rfl] at hx349_1)
   replace hx349_0 := hC HB hx349_0; replace hx349_1 := hC HB hx349_1; replace p349 := eq_true p349; replace q349 := eq_true q349; have p350 : 0 ≤ (0 : Int) := (by omega)
   have q350 : 0 < (l0.length : Int) := dT aQ; obtain ⟨ad350, e350, hx350_0, hx350_1⟩ := at_impl_Peg HR0.out 0 p350 q350; have hw350_1 := hx350_1
   (try rw [show ((0 : Int)).toNat = 0 from rfl] at hw350_1)
   (try rw [show 0 * 2 = 0 from rfl] at hw350_1)
   (try rw [Addr.add_zero'] at hw350_1)
   have hw350_0 := hx350_0
   (try rw [show ((0 : Int)).toNat = 0 from rfl] at hw350_0)
   (try rw [show 0 * 2 = 0 from rfl] at hw350_0)
   (try rw [Addr.add_zero'] at hw350_0)
   obtain rfl : ad340 = ad350 := (by injection e350)
   have qi350 : (0 < l0.length) = True := eq_true (by omega)
   (try rw [show ((0 : Int)).toNat = 0 from rfl] at hx350_0)
   (try rw [show 0 * 2 = 0 from rfl] at hx350_0)
   (try rw [Addr.add_zero'] at hx350_0)
   (try rw [show ((0 : Int)).toNat = 0 from rfl] at hx350_1)
   (try rw [show 0 * 2 = 0 from rfl] at hx350_1)
   (try rw [Addr.add_zero'] at hx350_1)
   replace hx350_0 := hC HB hx350_0; replace hx350_1 := hC HB hx350_1; replace p350 := eq_true p350; replace q350 := eq_true q350
   refine start_ (n := 11) (S := fun w' => w'.cell? ⟨gb348, 0, none⟩ = some (.int .i64 x5_5) ∧ w'.cell? ⟨gb348, 1, none⟩ = some (.int .i64 x6_5) ∧ w'.cell? ⟨gb348, 2, none⟩ = some (.int .i64 (wrap64 (Int.tdiv (wrap64 (-t343)) x4_5))) ∧ w'.cell? ⟨gb348, 3, none⟩ = some (.int .i64 (wrap64 (Int.tdiv t342 x4_5))) ∧ w'.cell? ⟨gb348, 4, none⟩ = some (.int .i64 0) ∧ w'.cell? ⟨gb348, 5, none⟩ = some (.int .i64 0) ∧ w'.cell? ⟨ad340.block, ad340.off + 4, none⟩ = some (.int .i64 ((rd_impl_Peg l0 2).f0)) ∧ w'.cell? ⟨ad340.block, ad340.off + 4 + 1, none⟩ = some (.int .i64 ((rd_impl_Peg l0 2).f1)) ∧ w'.cell? ad340 = some (.int .i64 ((rd_impl_Peg l0 0).f0)) ∧ w'.cell? ⟨ad340.block, ad340.off + 1, none⟩ = some (.int .i64 ((rd_impl_Peg l0 0).f1))) (ds := []) (bA 11 0) kR rfl kR ⟨vZ0 BK348, vZ1 BK348, vZ2 BK348, vZ3 BK348, vZ4 BK348, vZ5 BK348, (hC HB hw349_0 :), (hC HB hw349_1 :), (hC HB hw350_0 :), (hC HB hw350_1 :)⟩ (fun hHeld => ?_); refine with_tabW impl_frame.tab6 impl_frame.bits6 (fun HT_ HW_ => ?_)
   generalize w29.drew = w30 at BK344 BK348 HB hx349_0 hx349_1 hx350_0 hx350_1 hHeld ⊢
   refine pU 1 51 (bA 11 2) HT_ ?_; refine pU 2 52 (bA 11 6) HT_ ?_; refine pU 4 54 (bA 11 22) HT_ ?_; refine pU 5 55 (bA 11 54) HT_ ?_
   refine tU 0 50 (bA 11 55) HT_ HW_ hHeld ?_ (hy := Or.inl ⟨by rfl, by rintro w' ⟨s0, s1, s2, s3, s4, s5, s6, s7, s8, s9⟩; go_simp; with_reducible rfl⟩)
   refine tU 3 53 (bA 11 63) HT_ HW_ hHeld ?_ (hy := Or.inl ⟨by rfl, by rintro w' ⟨s0, s1, s2, s3, s4, s5, s6, s7, s8, s9⟩; go_simp; with_reducible rfl⟩)
   refine tU 6 56 (bA 11 127) HT_ HW_ hHeld ?_ (hy := Or.inl ⟨by rfl, by rintro w' ⟨s0, s1, s2, s3, s4, s5, s6, s7, s8, s9⟩; go_simp; with_reducible rfl⟩)
   refine join_ (σ := Nat) 1 (bA 11 1023) (fun s_ => [(57, .agg #[.int .i64 t351, .int .i64 t352]), (58, .agg #[.int .i64 t353, .int .i64 t354]), (8, .pointer (some ⟨s_, 0, none⟩))]) (fun s_ w' => (w'.cell? ⟨gb348, 0, none⟩ = some (.int .i64 x5_5) ∧ w'.cell? ⟨gb348, 1, none⟩ = some (.int .i64 x6_5) ∧ w'.cell? ⟨gb348, 2, none⟩ = some (.int .i64 (wrap64 (Int.tdiv (wrap64 (-t343)) x4_5))) ∧ w'.cell? ⟨gb348, 3, none⟩ = some (.int .i64 (wrap64 (Int.tdiv t342 x4_5))) ∧ w'.cell? ⟨gb348, 4, none⟩ = some (.int .i64 0) ∧ w'.cell? ⟨gb348, 5, none⟩ = some (.int .i64 0) ∧ w'.cell? ⟨ad340.block, ad340.off + 4, none⟩ = some (.int .i64 ((rd_impl_Peg l0 2).f0)) ∧ w'.cell? ⟨ad340.block, ad340.off + 4 + 1, none⟩ = some (.int .i64 ((rd_impl_Peg l0 2).f1)) ∧ w'.cell? ad340 = some (.int .i64 ((rd_impl_Peg l0 0).f0)) ∧ w'.cell? ⟨ad340.block, ad340.off + 1, none⟩ = some (.int .i64 ((rd_impl_Peg l0 0).f1))) ∧ (w'.heap[gb344]? = some (.cells #[.int .i64 t342, .int .i64 t343] 38 (0, 0))) ∧ (w'.heap[gb348]? = some (.cells #[.int .i64 x5_5, .int .i64 x6_5, .int .i64 (wrap64 (Int.tdiv (wrap64 (-t343)) x4_5)), .int .i64 (wrap64 (Int.tdiv t342 x4_5)), .int .i64 0, .int .i64 0] 25 (0, 0))) ∧ (w'.heap[s_]? = some (.cells #[.int .i64 0, .int .i64 0] 38 (0, 0))) ∧ (w.heap.size ≤ s_) ∧ (w.heap.size ≤ s_) ∧ (gb344 ≠ s_) ∧ (s_ ≠ gb344) ∧ (gb348 ≠ s_) ∧ (s_ ≠ gb348) ∧ (Below w.heap.size w w')) ?_ ?_
   rotate_left
   ·intro hCont
    refine two_ (i := 7) (j := 9) (Ni := some 57) (Nj := some 8) (bA 11 255) (bA 11 639) rfl rfl rfl rfl (two_of HT_.out kR) (by decide) (by decide) (fun K hK => ?_) (fun K hK => ?_)
    ·skip
     refine goes_ Try.func35 kR rfl #[.agg #[.int .i64 ((rd_impl_Peg l0 2).f0), .int .i64 ((rd_impl_Peg l0 2).f1)], .agg #[.int .i64 ((rd_impl_Peg l0 0).f0), .int .i64 ((rd_impl_Peg l0 0).f1)]] (by rfl) rfl rfl sQ ?_
     with_reducible refine (impl_Peg_less.calls ((rd_impl_Peg l0 2).f0) ((rd_impl_Peg l0 2).f1) ((rd_impl_Peg l0 0).f0) ((rd_impl_Peg l0 0).f1) t351 t352 _ A18.out).mono ?_
     rintro e w31 ⟨rfl, hb⟩; refine ⟨_, rfl, ?_⟩; replace BK344 := bB BK344 hb; replace BK348 := bB BK348 hb; replace HB := tB HB hb; (try clear hb); (try clear hb2); (try clear hk); (try clear hi)
     refine hK.out _ _ ⟨vZ0 BK348, vZ1 BK348, vZ2 BK348, vZ3 BK348, vZ4 BK348, vZ5 BK348, (hC HB hw349_0 :), (hC HB hw349_1 :), (hC HB hw350_0 :), (hC HB hw350_1 :)⟩ (fun hHeld => ?_)
     clear hK K
     refine nU ?_
     refine two_ (i := 8) (j := 9) (Ni := some 58) (Nj := some 8) (bA 11 511) (bA 11 767) rfl rfl rfl rfl (two_of HT_.out kR) (by decide) (by decide) (fun K hK => ?_) (fun K hK => ?_)
     ·skip
      refine goes_ Try.func37 kR rfl #[.agg #[.int .i64 x5_5, .int .i64 x6_5, .int .i64 (wrap64 (Int.tdiv (wrap64 (-t343)) x4_5)), .int .i64 (wrap64 (Int.tdiv t342 x4_5)), .int .i64 0, .int .i64 0], .agg #[.int .i64 t351, .int .i64 t352]] (by rfl) rfl rfl sQ ?_
      with_reducible refine (impl_Move_bring.calls x5_5 x6_5 (wrap64 (Int.tdiv (wrap64 (-t343)) x4_5)) (wrap64 (Int.tdiv t342 x4_5)) 0 0 t351 t352 t353 t354 _ A19.out).mono ?_
      rintro e w32 ⟨rfl, hb⟩; refine ⟨_, rfl, ?_⟩; replace BK344 := bB BK344 hb; replace BK348 := bB BK348 hb; replace HB := tB HB hb; (try clear hb); (try clear hb2); (try clear hk); (try clear hi)
      refine hK.out _ _ ⟨vZ0 BK348, vZ1 BK348, vZ2 BK348, vZ3 BK348, vZ4 BK348, vZ5 BK348, (hC HB hw349_0 :), (hC HB hw349_1 :), (hC HB hw350_0 :), (hC HB hw350_1 :)⟩ (fun hHeld => ?_)
      clear hK K
      refine nU ?_
      refine oU 9 8 (bA 11 1023) HT_ (fun K hK => ?_)
      refine box_step ?hg (N := 8) ?hd (cs := #[.int .i64 0, .int .i64 0]) (t := 38) ?hr ?_; (case hd => rfl); (case hg => rfl); (case hr => first | (go_simp; done) | (go_simp; rfl))
      intro gb355 hg w33 hbox hb
      have BK355 := aM (hbox); have GW355 := gZ HB hg; have GE355 := gZ HB hg; have NB344_355 := nG BK344 hg; have NB355_344 := nH BK344 hg; have NB348_355 := nG BK348 hg; have NB355_348 := nH BK348 hg; replace BK344 := bB BK344 hb; replace BK348 := bB BK348 hb; replace HB := tB HB hb; clear hb hbox hg
      refine hK.out _ _ ⟨vZ0 BK348, vZ1 BK348, vZ2 BK348, vZ3 BK348, vZ4 BK348, vZ5 BK348, (hC HB hw349_0 :), (hC HB hw349_1 :), (hC HB hw350_0 :), (hC HB hw350_1 :)⟩ (fun hHeld => ?_)
      clear hK K
      refine nU ?_
      exact norm_ (by simp only [putAll, Act.put, sI, sZ, sS]) (hCont (gb355) _ ⟨hHeld, (gQ BK344), (gQ BK348), (gQ BK355), GW355.out, GE355.out, NB344_355.out, NB355_344.out, NB348_355.out, NB355_348.out, bE⟩)
     ·skip
      refine box_step ?hg (N := 8) ?hd (cs := #[.int .i64 0, .int .i64 0]) (t := 38) ?hr ?_; (case hd => rfl); (case hg => rfl); (case hr => first | (go_simp; done) | (go_simp; rfl))
      intro gb355 hg w32 hbox hb
      have BK355 := aM (hbox); have GW355 := gZ HB hg; have GE355 := gZ HB hg; have NB344_355 := nG BK344 hg; have NB355_344 := nH BK344 hg; have NB348_355 := nG BK348 hg; have NB355_348 := nH BK348 hg; replace BK344 := bB BK344 hb; replace BK348 := bB BK348 hb; replace HB := tB HB hb; clear hb hbox hg
      refine hK.out _ _ ⟨vZ0 BK348, vZ1 BK348, vZ2 BK348, vZ3 BK348, vZ4 BK348, vZ5 BK348, (hC HB hw349_0 :), (hC HB hw349_1 :), (hC HB hw350_0 :), (hC HB hw350_1 :)⟩ (fun hHeld => ?_)
      clear hK K
      refine nU ?_
      refine oU 8 58 (bA 11 1023) HT_ (fun K hK => ?_)
      refine goes_ Try.func37 kR rfl #[.agg #[.int .i64 x5_5, .int .i64 x6_5, .int .i64 (wrap64 (Int.tdiv (wrap64 (-t343)) x4_5)), .int .i64 (wrap64 (Int.tdiv t342 x4_5)), .int .i64 0, .int .i64 0], .agg #[.int .i64 t351, .int .i64 t352]] (by rfl) rfl rfl sQ ?_
      with_reducible refine (impl_Move_bring.calls x5_5 x6_5 (wrap64 (Int.tdiv (wrap64 (-t343)) x4_5)) (wrap64 (Int.tdiv t342 x4_5)) 0 0 t351 t352 t353 t354 _ A19.out).mono ?_
      rintro e w33 ⟨rfl, hb⟩; refine ⟨_, rfl, ?_⟩; replace BK344 := bB BK344 hb; replace BK348 := bB BK348 hb; replace BK355 := bB BK355 hb; replace HB := tB HB hb; (try clear hb); (try clear hb2); (try clear hk); (try clear hi)
      refine hK.out _ _ ⟨vZ0 BK348, vZ1 BK348, vZ2 BK348, vZ3 BK348, vZ4 BK348, vZ5 BK348, (hC HB hw349_0 :), (hC HB hw349_1 :), (hC HB hw350_0 :), (hC HB hw350_1 :)⟩ (fun hHeld => ?_)
      clear hK K
      refine nU ?_
      exact norm_ (by simp only [putAll, Act.put, sI, sZ, sS]) (hCont (gb355) _ ⟨hHeld, (gQ BK344), (gQ BK348), (gQ BK355), GW355.out, GE355.out, NB344_355.out, NB355_344.out, NB348_355.out, NB355_348.out, bE⟩)
    ·skip
     refine box_step ?hg (N := 8) ?hd (cs := #[.int .i64 0, .int .i64 0]) (t := 38) ?hr ?_; (case hd => rfl); (case hg => rfl); (case hr => first | (go_simp; done) | (go_simp; rfl))
     intro gb355 hg w31 hbox hb
     have BK355 := aM (hbox); have GW355 := gZ HB hg; have GE355 := gZ HB hg; have NB344_355 := nG BK344 hg; have NB355_344 := nH BK344 hg; have NB348_355 := nG BK348 hg; have NB355_348 := nH BK348 hg; replace BK344 := bB BK344 hb; replace BK348 := bB BK348 hb; replace HB := tB HB hb; clear hb hbox hg
     refine hK.out _ _ ⟨vZ0 BK348, vZ1 BK348, vZ2 BK348, vZ3 BK348, vZ4 BK348, vZ5 BK348, (hC HB hw349_0 :), (hC HB hw349_1 :), (hC HB hw350_0 :), (hC HB hw350_1 :)⟩ (fun hHeld => ?_)
     clear hK K
     refine nU ?_
     refine oU 7 57 (bA 11 767) HT_ (fun K hK => ?_)
     refine goes_ Try.func35 kR rfl #[.agg #[.int .i64 ((rd_impl_Peg l0 2).f0), .int .i64 ((rd_impl_Peg l0 2).f1)], .agg #[.int .i64 ((rd_impl_Peg l0 0).f0), .int .i64 ((rd_impl_Peg l0 0).f1)]] (by rfl) rfl rfl sQ ?_
     with_reducible refine (impl_Peg_less.calls ((rd_impl_Peg l0 2).f0) ((rd_impl_Peg l0 2).f1) ((rd_impl_Peg l0 0).f0) ((rd_impl_Peg l0 0).f1) t351 t352 _ A18.out).mono ?_
     rintro e w32 ⟨rfl, hb⟩; refine ⟨_, rfl, ?_⟩; replace BK344 := bB BK344 hb; replace BK348 := bB BK348 hb; replace BK355 := bB BK355 hb; replace HB := tB HB hb; (try clear hb); (try clear hb2); (try clear hk); (try clear hi)
     refine hK.out _ _ ⟨vZ0 BK348, vZ1 BK348, vZ2 BK348, vZ3 BK348, vZ4 BK348, vZ5 BK348, (hC HB hw349_0 :), (hC HB hw349_1 :), (hC HB hw350_0 :), (hC HB hw350_1 :)⟩ (fun hHeld => ?_)
     clear hK K
     refine nU ?_
     refine oU 8 58 (bA 11 1023) HT_ (fun K hK => ?_)
     refine goes_ Try.func37 kR rfl #[.agg #[.int .i64 x5_5, .int .i64 x6_5, .int .i64 (wrap64 (Int.tdiv (wrap64 (-t343)) x4_5)), .int .i64 (wrap64 (Int.tdiv t342 x4_5)), .int .i64 0, .int .i64 0], .agg #[.int .i64 t351, .int .i64 t352]] (by rfl) rfl rfl sQ ?_
     with_reducible refine (impl_Move_bring.calls x5_5 x6_5 (wrap64 (Int.tdiv (wrap64 (-t343)) x4_5)) (wrap64 (Int.tdiv t342 x4_5)) 0 0 t351 t352 t353 t354 _ A19.out).mono ?_
     rintro e w33 ⟨rfl, hb⟩; refine ⟨_, rfl, ?_⟩; replace BK344 := bB BK344 hb; replace BK348 := bB BK348 hb; replace BK355 := bB BK355 hb; replace HB := tB HB hb; (try clear hb); (try clear hb2); (try clear hk); (try clear hi)
     refine hK.out _ _ ⟨vZ0 BK348, vZ1 BK348, vZ2 BK348, vZ3 BK348, vZ4 BK348, vZ5 BK348, (hC HB hw349_0 :), (hC HB hw349_1 :), (hC HB hw350_0 :), (hC HB hw350_1 :)⟩ (fun hHeld => ?_)
     clear hK K
     refine nU ?_
     exact norm_ (by simp only [putAll, Act.put, sI, sZ, sS]) (hCont (gb355) _ ⟨hHeld, (gQ BK344), (gQ BK348), (gQ BK355), GW355.out, GE355.out, NB344_355.out, NB355_344.out, NB348_355.out, NB355_348.out, bE⟩)
   rintro gb355 w34 ⟨hS_, h0_, h1_, h2_, h3_, h4_, h5_, h6_, h7_, h8_, h9_⟩; have n0_ : Aside0 (w34.heap[gb344]? = some (.cells #[.int .i64 t342, .int .i64 t343] 38 (0, 0))) := ⟨h0_⟩; have n1_ : Aside0 (w34.heap[gb348]? = some (.cells #[.int .i64 x5_5, .int .i64 x6_5, .int .i64 (wrap64 (Int.tdiv (wrap64 (-t343)) x4_5)), .int .i64 (wrap64 (Int.tdiv t342 x4_5)), .int .i64 0, .int .i64 0] 25 (0, 0))) := ⟨h1_⟩; have n2_ : Aside0 (w34.heap[gb355]? = some (.cells #[.int .i64 0, .int .i64 0] 38 (0, 0))) := ⟨h2_⟩; have n3_ : Aside0 (w.heap.size ≤ gb355) := ⟨h3_⟩; have n4_ : Aside0 (w.heap.size ≤ gb355) := ⟨h4_⟩; have n5_ : Aside0 (gb344 ≠ gb355) := ⟨h5_⟩; have n6_ : Aside0 (gb355 ≠ gb344) := ⟨h6_⟩; have n7_ : Aside0 (gb348 ≠ gb355) := ⟨h7_⟩; have n8_ : Aside0 (gb355 ≠ gb348) := ⟨h8_⟩; have n9_ : Aside0 (Below w.heap.size w w34) := ⟨h9_⟩; clear BK344; clear BK348; clear HB; clear h0_ h1_ h2_ h3_ h4_ h5_ h6_ h7_ h8_ h9_; have BK344 := n0_; have BK348 := n1_; have BK355 := n2_; have GW355 := n3_; have GE355 := n4_; have NB344_355 := n5_; have NB355_344 := n6_; have NB348_355 := n7_; have NB355_348 := n8_; have HB := n9_; clear n0_ n1_ n2_ n3_ n4_ n5_ n6_ n7_ n8_ n9_; have hHeld : w34.cell? ⟨gb348, 0, none⟩ = some (.int .i64 x5_5) ∧ w34.cell? ⟨gb348, 1, none⟩ = some (.int .i64 x6_5) ∧ w34.cell? ⟨gb348, 2, none⟩ = some (.int .i64 (wrap64 (Int.tdiv (wrap64 (-t343)) x4_5))) ∧ w34.cell? ⟨gb348, 3, none⟩ = some (.int .i64 (wrap64 (Int.tdiv t342 x4_5))) ∧ w34.cell? ⟨gb348, 4, none⟩ = some (.int .i64 0) ∧ w34.cell? ⟨gb348, 5, none⟩ = some (.int .i64 0) ∧ w34.cell? ⟨ad340.block, ad340.off + 4, none⟩ = some (.int .i64 ((rd_impl_Peg l0 2).f0)) ∧ w34.cell? ⟨ad340.block, ad340.off + 4 + 1, none⟩ = some (.int .i64 ((rd_impl_Peg l0 2).f1)) ∧ w34.cell? ad340 = some (.int .i64 ((rd_impl_Peg l0 0).f0)) ∧ w34.cell? ⟨ad340.block, ad340.off + 1, none⟩ = some (.int .i64 ((rd_impl_Peg l0 0).f1)) := hS_
   refine norm_ (a' := ?_) ?_ ?_
   rotate_left
   ·simp only [putAll, Act.put, sI, sZ, sS]
    rfl
   refine one_ (i := 10) (N := none) (bA 11 2047) rfl rfl (one_of HT_.out kR) (by decide) (fun K hK => ?_)
   have hs35 : w34.cell? ⟨gb355, 0, none⟩ = some (.int .i64 0) := vZ0 BK355; have hfs35 := kF BK355.out 0; have hns35_0 := NB344_355.out; have hns35_1 := NB348_355.out; have hms35_0 := NB355_344.out; have hms35_1 := NB355_348.out; have hs36 : w34.cell? ⟨gb355, 1, none⟩ = some (.int .i64 0) := vZ1 BK355; have hfs36 := kF BK355.out 1; have hns36_0 := NB344_355.out; have hns36_1 := NB348_355.out; have hms36_0 := NB355_344.out; have hms36_1 := NB355_348.out
   refine skip_ (w1 := ?_) (by rfl) rfl ?_ ?_
   rotate_left
   ·go_simp
    rfl
   refine hK.out _ _ ⟨((cell_far (p := ⟨gb355, _, none⟩) NB348_355.out _).trans (((cell_far (p := ⟨gb355, _, none⟩) NB348_355.out _).trans (hHeld.1)))), ((cell_far (p := ⟨gb355, _, none⟩) NB348_355.out _).trans (((cell_far (p := ⟨gb355, _, none⟩) NB348_355.out _).trans (hHeld.2.1)))), ((cell_far (p := ⟨gb355, _, none⟩) NB348_355.out _).trans (((cell_far (p := ⟨gb355, _, none⟩) NB348_355.out _).trans (hHeld.2.2.1)))), ((cell_far (p := ⟨gb355, _, none⟩) NB348_355.out _).trans (((cell_far (p := ⟨gb355, _, none⟩) NB348_355.out _).trans (hHeld.2.2.2.1)))), ((cell_far (p := ⟨gb355, _, none⟩) NB348_355.out _).trans (((cell_far (p := ⟨gb355, _, none⟩) NB348_355.out _).trans (hHeld.2.2.2.2.1)))), ((cell_far (p := ⟨gb355, _, none⟩) NB348_355.out _).trans (((cell_far (p := ⟨gb355, _, none⟩) NB348_355.out _).trans (hHeld.2.2.2.2.2.1)))), ((cell_far (p := ⟨gb355, _, none⟩) (by first | exact nN (nL (by have := wB _ _ hw349_0; first | rwa [add_block] at this | exact this) GW355.out) | (rw [add_block]; exact nN (nL (by have := wB _ _ hw349_0; first | rwa [add_block] at this | exact this) GW355.out)) | (show (Addr.add _ _).block ≠ _; rw [add_block]; exact nN (nL (by have := wB _ _ hw349_0; first | rwa [add_block] at this | exact this) GW355.out)) | (dsimp only; exact nN (nL (by have := wB _ _ hw349_0; first | rwa [add_block] at this | exact this) GW355.out))) _).trans (((cell_far (p := ⟨gb355, _, none⟩) (by first | exact nN (nL (by have := wB _ _ hw349_0; first | rwa [add_block] at this | exact this) GW355.out) | (rw [add_block]; exact nN (nL (by have := wB _ _ hw349_0; first | rwa [add_block] at this | exact this) GW355.out)) | (show (Addr.add _ _).block ≠ _; rw [add_block]; exact nN (nL (by have := wB _ _ hw349_0; first | rwa [add_block] at this | exact this) GW355.out)) | (dsimp only; exact nN (nL (by have := wB _ _ hw349_0; first | rwa [add_block] at this | exact this) GW355.out))) _).trans (hHeld.2.2.2.2.2.2.1)))), ((cell_far (p := ⟨gb355, _, none⟩) (by first | exact nN (nL (by have := wB _ _ hw349_1; first | rwa [add_block] at this | exact this) GW355.out) | (rw [add_block]; exact nN (nL (by have := wB _ _ hw349_1; first | rwa [add_block] at this | exact this) GW355.out)) | (show (Addr.add _ _).block ≠ _; rw [add_block]; exact nN (nL (by have := wB _ _ hw349_1; first | rwa [add_block] at this | exact this) GW355.out)) | (dsimp only; exact nN (nL (by have := wB _ _ hw349_1; first | rwa [add_block] at this | exact this) GW355.out))) _).trans (((cell_far (p := ⟨gb355, _, none⟩) (by first | exact nN (nL (by have := wB _ _ hw349_1; first | rwa [add_block] at this | exact this) GW355.out) | (rw [add_block]; exact nN (nL (by have := wB _ _ hw349_1; first | rwa [add_block] at this | exact this) GW355.out)) | (show (Addr.add _ _).block ≠ _; rw [add_block]; exact nN (nL (by have := wB _ _ hw349_1; first | rwa [add_block] at this | exact this) GW355.out)) | (dsimp only; exact nN (nL (by have := wB _ _ hw349_1; first | rwa [add_block] at this | exact this) GW355.out))) _).trans (hHeld.2.2.2.2.2.2.2.1)))), ((cell_far (p := ⟨gb355, _, none⟩) (by first | exact nN (nL (by have := wB _ _ hw350_0; first | rwa [add_block] at this | exact this) GW355.out) | (rw [add_block]; exact nN (nL (by have := wB _ _ hw350_0; first | rwa [add_block] at this | exact this) GW355.out)) | (show (Addr.add _ _).block ≠ _; rw [add_block]; exact nN (nL (by have := wB _ _ hw350_0; first | rwa [add_block] at this | exact this) GW355.out)) | (dsimp only; exact nN (nL (by have := wB _ _ hw350_0; first | rwa [add_block] at this | exact this) GW355.out))) _).trans (((cell_far (p := ⟨gb355, _, none⟩) (by first | exact nN (nL (by have := wB _ _ hw350_0; first | rwa [add_block] at this | exact this) GW355.out) | (rw [add_block]; exact nN (nL (by have := wB _ _ hw350_0; first | rwa [add_block] at this | exact this) GW355.out)) | (show (Addr.add _ _).block ≠ _; rw [add_block]; exact nN (nL (by have := wB _ _ hw350_0; first | rwa [add_block] at this | exact this) GW355.out)) | (dsimp only; exact nN (nL (by have := wB _ _ hw350_0; first | rwa [add_block] at this | exact this) GW355.out))) _).trans (hHeld.2.2.2.2.2.2.2.2.1)))), ((cell_far (p := ⟨gb355, _, none⟩) (by first | exact nN (nL (by have := wB _ _ hw350_1; first | rwa [add_block] at this | exact this) GW355.out) | (rw [add_block]; exact nN (nL (by have := wB _ _ hw350_1; first | rwa [add_block] at this | exact this) GW355.out)) | (show (Addr.add _ _).block ≠ _; rw [add_block]; exact nN (nL (by have := wB _ _ hw350_1; first | rwa [add_block] at this | exact this) GW355.out)) | (dsimp only; exact nN (nL (by have := wB _ _ hw350_1; first | rwa [add_block] at this | exact this) GW355.out))) _).trans (((cell_far (p := ⟨gb355, _, none⟩) (by first | exact nN (nL (by have := wB _ _ hw350_1; first | rwa [add_block] at this | exact this) GW355.out) | (rw [add_block]; exact nN (nL (by have := wB _ _ hw350_1; first | rwa [add_block] at this | exact this) GW355.out)) | (show (Addr.add _ _).block ≠ _; rw [add_block]; exact nN (nL (by have := wB _ _ hw350_1; first | rwa [add_block] at this | exact this) GW355.out)) | (dsimp only; exact nN (nL (by have := wB _ _ hw350_1; first | rwa [add_block] at this | exact this) GW355.out))) _).trans (hHeld.2.2.2.2.2.2.2.2.2))))⟩ (fun hHeld => ?_)
   clear hK K
   refine done_ (done_of HT_.out kR) ?_
   have hnb37 := NB355_344.out; have hnc37 := NB344_355.out; have hnb38 := NB355_348.out; have hnc38 := NB348_355.out; have hcz39_0 := vZ0 BK355; have hcz39_1 := vZ1 BK355; have hfz39_0 := kF BK355.out 0; have hfz39_1 := kF BK355.out 1
   go_upto_if 61 with (fail)
   go_cut [] (fun wc => ∃ (kq : Nat) (x349002_19 : Int) (x349003_19 : Int) (x356001_19 : Int), Aside0 (impl_frame.j1 kq l0 x5_5 x6_5 x349002_19 x349003_19 0 0 t353 x356001_19 = some r) ∧ Aside0 (kq ≤ kj5) ∧ Aside0 (wc.heap[gb344]? = some (.cells #[.int .i64 t342, .int .i64 t343] 38 (0, 0))) ∧ Aside0 (wc.heap[gb348]? = some (.cells #[.int .i64 x5_5, .int .i64 x6_5, .int .i64 x349002_19, .int .i64 x349003_19, .int .i64 0, .int .i64 0] 25 (0, 0))) ∧ Aside0 (wc.heap[gb355]? = some (.cells #[.int .i64 t353, .int .i64 x356001_19] 38 (0, 0))) ∧ Aside0 (Below w.heap.size w wc))
   case first =>
    have H := HC20.out; clear HC20
    by_cases c40 : t354 < 0
    ·rw [if_pos c40] at H; have c40b0 := dE c40; clear c40
     (first | rw [c40b0] | (simp only [i64_w, i32_w]; rw [c40b0]) | skip)
     have H' := aM H; clear H; have hnb41 := NB348_344.out; have hnc41 := NB344_348.out; have hnb42 := NB348_355.out; have hnc42 := NB355_348.out; have hcz43_0 := vZ0 BK348; have hcz43_1 := vZ1 BK348; have hcz43_2 : w34.cell? ⟨gb348, 2, none⟩ = some (.int .i64 (wrap64 (Int.tdiv (wrap64 (-t343)) x4_5))) := vZ2 BK348; have hcz43_3 := vZ3 BK348; have hcz43_4 := vZ4 BK348; have hcz43_5 := vZ5 BK348; have hfz43_0 := kF BK348.out 0; have hfz43_1 := kF BK348.out 1; have hfz43_2 := kF BK348.out 2; have hfz43_3 := kF BK348.out 3; have hfz43_4 := kF BK348.out 4; have hfz43_5 := kF BK348.out 5; have hnb44 := NB355_344.out; have hnc44 := NB344_355.out; have hcz45_0 := vZ0 BK355; have hcz45_1 := vZ1 BK355; have hfz45_0 := kF BK355.out 0; have hfz45_1 := kF BK355.out 1; go_wp2
     refine start_ (n := 15) (S := fun w' => w'.cell? ⟨gb348, 2, none⟩ = some (.int .i64 (wrap64 (Int.tdiv (wrap64 (-t343)) x4_5))) ∧ w'.cell? ⟨gb348, 3, none⟩ = some (.int .i64 (wrap64 (Int.tdiv t342 x4_5))) ∧ w'.cell? ⟨gb355, 1, none⟩ = some (.int .i64 t354)) (ds := [10, 12, 14]) (bA 15 0) kR rfl rfl ⟨by go_simp, by go_simp, by go_simp⟩ (fun hHeld => ?_)
     refine with_tabW impl_frame.tab8 impl_frame.bits8 (fun HT_ HW_ => ?_)
     obtain ⟨s0, s1, s2⟩ := id hHeld; refine pU 0 62 (bA 15 1) HT_ ?_; refine pU 3 65 (bA 15 9) HT_ ?_; refine pU 6 68 (bA 15 73) HT_ ?_
     refine tU 1 63 (bA 15 75) HT_ HW_ hHeld ?_ (hy := Or.inl ⟨by rfl, by rintro w' ⟨s0, s1, s2⟩; go_simp; with_reducible rfl⟩)
     refine pU 2 64 (bA 15 79) HT_ ?_
     refine tU 4 66 (bA 15 95) HT_ HW_ hHeld ?_ (hy := Or.inl ⟨by rfl, by rintro w' ⟨s0, s1, s2⟩; go_simp; with_reducible rfl⟩)
     refine pU 5 67 (bA 15 127) HT_ ?_; refine pU 9 71 (bA 15 639) HT_ ?_
     refine twoW_ (i := 7) (j := 10) (Ni := some 69) (Nj := none) (bA 15 767) (bA 15 1663) rfl rfl rfl rfl (two_of HT_.out kR) (by decide) (fun K hK => ?_) (fun K hK => ?_)
     ·skip
      refine value_ (w1 := ?_) (v := ?_) (by rfl) rfl ?_ ?_
      rotate_left 2
      ·go_simp
       constructor
       ·rfl
       ·rfl
      refine hK.out _ ?_
      clear hK K
      refine nU ?_
      refine pU 8 70 (bA 15 1023) HT_ ?_
      refine last_ (i := 10) (N := none) (bA 15 2047) rfl rfl (one_of HT_.out kR) (by decide) (fun K hK => ?_)
      refine skip_ (w1 := ?_) (by rfl) rfl ?_ ?_
      rotate_left
      ·go_simp
       rfl
      refine hK.out _ _ ?_
      clear hK K; refine pU 11 72 (bA 15 4095) HT_ ?_
      refine last_ (i := 12) (N := none) (bA 15 8191) rfl rfl (one_of HT_.out kR) (by decide) (fun K hK => ?_)
      refine skip_ (w1 := ?_) (by rfl) rfl ?_ ?_
      rotate_left
      ·go_simp
       rfl
      refine hK.out _ _ ?_
      clear hK K; refine pU 13 73 (bA 15 16383) HT_ ?_
      refine last_ (i := 14) (N := none) (bA 15 32767) rfl rfl (one_of HT_.out kR) (by decide) (fun K hK => ?_)
      refine skip_ (w1 := ?_) (by rfl) rfl ?_ ?_
      rotate_left
      ·go_simp
       rfl
      refine hK.out _ _ ?_
      clear hK K
      refine done_ (done_of HT_.out kR) ?_
      try go_wp2
      go_meet
      case rel => exact ⟨_, (wrap64 (-(wrap64 (Int.tdiv (wrap64 (-t343)) x4_5)))), (wrap64 (-(wrap64 (Int.tdiv t342 x4_5)))), (wrap64 (-t354)), H', ⟨by have := HJ5.out; first | omega | exact Nat.le_refl _⟩, ⟨fQ BK344⟩, ⟨fQ BK348⟩, ⟨fQ BK355⟩, ⟨bE⟩⟩
     ·skip
      refine skip_ (w1 := ?_) (by rfl) rfl ?_ ?_
      rotate_left
      ·go_simp
       rfl
      refine hK.out _ _ ?_
      clear hK K; refine pU 11 72 (bA 15 3711) HT_ ?_
      refine twoW_ (i := 7) (j := 12) (Ni := some 69) (Nj := none) (bA 15 3839) (bA 15 7807) rfl rfl rfl rfl (two_of HT_.out kR) (by decide) (fun K hK => ?_) (fun K hK => ?_)
      ·skip
       refine value_ (w1 := ?_) (v := ?_) (by rfl) rfl ?_ ?_
       rotate_left 2
       ·go_simp
        constructor
        ·rfl
        ·rfl
       refine hK.out _ ?_
       clear hK K
       refine nU ?_
       refine pU 8 70 (bA 15 4095) HT_ ?_
       refine last_ (i := 12) (N := none) (bA 15 8191) rfl rfl (one_of HT_.out kR) (by decide) (fun K hK => ?_)
       refine skip_ (w1 := ?_) (by rfl) rfl ?_ ?_
       rotate_left
       ·go_simp
        rfl
       refine hK.out _ _ ?_
       clear hK K; refine pU 13 73 (bA 15 16383) HT_ ?_
       refine last_ (i := 14) (N := none) (bA 15 32767) rfl rfl (one_of HT_.out kR) (by decide) (fun K hK => ?_)
       refine skip_ (w1 := ?_) (by rfl) rfl ?_ ?_
       rotate_left
       ·go_simp
        rfl
       refine hK.out _ _ ?_
       clear hK K
       refine done_ (done_of HT_.out kR) ?_
       try go_wp2
       go_meet
       case rel => exact ⟨_, (wrap64 (-(wrap64 (Int.tdiv (wrap64 (-t343)) x4_5)))), (wrap64 (-(wrap64 (Int.tdiv t342 x4_5)))), (wrap64 (-t354)), H', ⟨by have := HJ5.out; first | omega | exact Nat.le_refl _⟩, ⟨fQ BK344⟩, ⟨fQ BK348⟩, ⟨fQ BK355⟩, ⟨bE⟩⟩
      ·skip
       refine skip_ (w1 := ?_) (by rfl) rfl ?_ ?_
       rotate_left
       ·go_simp
        rfl
       refine hK.out _ _ ?_
       clear hK K
       refine oneW_ (i := 7) (N := some 69) (bA 15 7935) rfl rfl (one_of HT_.out kR) (fun K hK => ?_)
       refine value_ (w1 := ?_) (v := ?_) (by rfl) rfl ?_ ?_
       rotate_left 2
       ·go_simp
        constructor
        ·rfl
        ·rfl
       refine hK.out _ ?_
       clear hK K
       refine nU ?_
       refine pU 8 70 (bA 15 8191) HT_ ?_; refine pU 13 73 (bA 15 16383) HT_ ?_
       refine last_ (i := 14) (N := none) (bA 15 32767) rfl rfl (one_of HT_.out kR) (by decide) (fun K hK => ?_)
       refine skip_ (w1 := ?_) (by rfl) rfl ?_ ?_
       rotate_left
       ·go_simp
        rfl
       refine hK.out _ _ ?_
       clear hK K
       refine done_ (done_of HT_.out kR) ?_
       try go_wp2
       go_meet
       case rel => exact ⟨_, (wrap64 (-(wrap64 (Int.tdiv (wrap64 (-t343)) x4_5)))), (wrap64 (-(wrap64 (Int.tdiv t342 x4_5)))), (wrap64 (-t354)), H', ⟨by have := HJ5.out; first | omega | exact Nat.le_refl _⟩, ⟨fQ BK344⟩, ⟨fQ BK348⟩, ⟨fQ BK355⟩, ⟨bE⟩⟩
    ·rw [if_neg c40] at H; have c40b0 := decide_eq_false c40; clear c40
     (first | rw [c40b0] | (simp only [i64_w, i32_w]; rw [c40b0]) | skip)
     have H' := aM H; clear H; go_wp2
     go_meet
     case rel => exact ⟨_, (wrap64 (Int.tdiv (wrap64 (-t343)) x4_5)), (wrap64 (Int.tdiv t342 x4_5)), (t354), H', ⟨by have := HJ5.out; first | omega | exact Nat.le_refl _⟩, ⟨fQ BK344⟩, ⟨fQ BK348⟩, ⟨fQ BK355⟩, ⟨bE⟩⟩
   case rest =>
    clear HC20; (try clear c3); (try clear hcz39_0); (try clear hcz39_1); (try clear hfz39_0); (try clear hfz39_1); (try clear hx349_0); (try clear hx349_1); (try clear hx350_0); (try clear hx350_1); (try clear p349); (try clear p350); (try clear q349); (try clear q350); obtain ⟨kq, x349002_19, x349003_19, x356001_19, HA, HJ19, BK344, BK348, BK355, HB⟩ := hcut
    cases kq with
    | zero => exact absurd HA.out (by simp [impl_frame.j1])
    | succ kj19 =>
     have H := HA.out; clear HA
     simp only [impl_frame.j1] at H
     replace H := iM H; obtain ⟨c46, H⟩ := H; have c46b0 : (x356001_19 == 0) = false := beq_eq_false_iff_ne.mpr c46; have c46b1 : (x356001_19 != 0) = true := bne_iff_ne.mpr c46; replace H := iN H; obtain ⟨c47, H⟩ := H; have c47b0 := eq_true c47; have c47b1 := dE c47; clear c47; replace H := iN H; obtain ⟨c48, H⟩ := H; have c48b0 := eq_true c48; have c48b1 := dE c48; clear c48; obtain ⟨y356, hy356⟩ : ∃ y_ : List (S_impl_Peg), y_ = (([] : List (S_impl_Peg))) := ⟨_, rfl⟩; rw [← hy356] at H; have Ny356 := aM hy356; clear hy356; have H' := aM H; clear H
     try go_wp2
     replace BK344 := aM (kD BK344.out); replace BK348 := aM (kD BK348.out); replace BK355 := aM (kD BK355.out); replace HB := aM (pD HB.out)
     refine start_ (n := 12) (S := fun w' => w'.cell? ⟨gb355, 0, none⟩ = some (.int .i64 t353) ∧ w'.cell? ⟨gb355, 1, none⟩ = some (.int .i64 x356001_19)) (ds := []) (bA 12 0) kR rfl kR ⟨vZ0 BK355, vZ1 BK355⟩ (fun hHeld => ?_); refine with_tabW impl_frame.tab9 impl_frame.bits9 (fun HT_ HW_ => ?_)
     generalize wc.drew = w49 at BK344 BK348 BK355 HB hHeld ⊢
     refine pU 0 74 (bA 12 1) HT_ ?_; refine pU 2 76 (bA 12 5) HT_ ?_; refine pU 5 79 (bA 12 37) HT_ ?_; refine pU 8 82 (bA 12 293) HT_ ?_
     refine tU 1 75 (bA 12 295) HT_ HW_ hHeld ?_ (hy := Or.inl ⟨by rfl, by rintro w' ⟨s0, s1⟩; go_simp; with_reducible rfl⟩)
     refine tU 3 77 (bA 12 303) HT_ HW_ hHeld ?_ (hy := Or.inl ⟨by rfl, by rintro w' ⟨s0, s1⟩; go_simp; with_reducible rfl⟩)
     refine pU 4 78 (bA 12 319) HT_ ?_
     refine tU 6 80 (bA 12 383) HT_ HW_ hHeld ?_ (hy := Or.inl ⟨by rfl, by rintro w' ⟨s0, s1⟩; go_simp; with_reducible rfl⟩)
     refine pU 7 81 (bA 12 511) HT_ ?_
     refine tU 9 83 (bA 12 1023) HT_ HW_ hHeld ?_ (hy := Or.inl ⟨by rfl, by rintro w' ⟨s0, s1⟩; go_simp; with_reducible rfl⟩)
     refine pU 10 84 (bA 12 2047) HT_ ?_; refine pU 11 9 (bA 12 4095) HT_ ?_
     refine done_ (done_of HT_.out kR) ?_
     have hnb50 := NB355_344.out; have hnc50 := NB344_355.out; have hnb51 := NB355_348.out; have hnc51 := NB348_355.out; have hcz52_0 := vZ0 BK355; have hcz52_1 := vZ1 BK355; have hfz52_0 := kF BK355.out 0; have hfz52_1 := kF BK355.out 1; have hnb53 := NB348_344.out; have hnc53 := NB344_348.out; have hcz54_0 := vZ0 BK348; have hcz54_1 := vZ1 BK348; have hcz54_2 := vZ2 BK348; have hcz54_3 := vZ3 BK348; have hcz54_4 := vZ4 BK348; have hcz54_5 := vZ5 BK348; have hfz54_0 := kF BK348.out 0; have hfz54_1 := kF BK348.out 1; have hfz54_2 := kF BK348.out 2; have hfz54_3 := kF BK348.out 3; have hfz54_4 := kF BK348.out 4; have hfz54_5 := kF BK348.out 5
     try go_wp2_with (first | ((with_reducible refine gate_dst (N := 110) rfl ?_); have n0_ : Aside0 (((w49.setCell ⟨gb348, 0, none⟩ (.int .i64 (wrap64 (x5_5 + (wrap64 ((wrap64 (Int.tdiv (wrap64 ((Int.tmod (wrap64 ((Int.tmod t353 x356001_19) + x356001_19)) x356001_19) - t353)) x356001_19)) * x349002_19)))))).setCell ⟨gb348, 1, none⟩ (.int .i64 (wrap64 (x6_5 + (wrap64 ((wrap64 (Int.tdiv (wrap64 ((Int.tmod (wrap64 ((Int.tmod t353 x356001_19) + x356001_19)) x356001_19) - t353)) x356001_19)) * x349003_19)))))).heap[gb344]? = some (.cells #[.int .i64 t342, .int .i64 t343] 38 (0, 0))) := ⟨by refine blk_far ?_ NB344_348.out _; refine blk_far ?_ NB344_348.out _; exact BK344.out⟩; have n1_ : Aside0 (((w49.setCell ⟨gb348, 0, none⟩ (.int .i64 (wrap64 (x5_5 + (wrap64 ((wrap64 (Int.tdiv (wrap64 ((Int.tmod (wrap64 ((Int.tmod t353 x356001_19) + x356001_19)) x356001_19) - t353)) x356001_19)) * x349002_19)))))).setCell ⟨gb348, 1, none⟩ (.int .i64 (wrap64 (x6_5 + (wrap64 ((wrap64 (Int.tdiv (wrap64 ((Int.tmod (wrap64 ((Int.tmod t353 x356001_19) + x356001_19)) x356001_19) - t353)) x356001_19)) * x349003_19)))))).heap[gb348]? = some (.cells #[.int .i64 (wrap64 (x5_5 + (wrap64 ((wrap64 (Int.tdiv (wrap64 ((Int.tmod (wrap64 ((Int.tmod t353 x356001_19) + x356001_19)) x356001_19) - t353)) x356001_19)) * x349002_19)))), .int .i64 (wrap64 (x6_5 + (wrap64 ((wrap64 (Int.tdiv (wrap64 ((Int.tmod (wrap64 ((Int.tmod t353 x356001_19) + x356001_19)) x356001_19) - t353)) x356001_19)) * x349003_19)))), .int .i64 x349002_19, .int .i64 x349003_19, .int .i64 0, .int .i64 0] 25 (0, 0))) := ⟨by refine blk_put (cs := #[.int .i64 (wrap64 (x5_5 + (wrap64 ((wrap64 (Int.tdiv (wrap64 ((Int.tmod (wrap64 ((Int.tmod t353 x356001_19) + x356001_19)) x356001_19) - t353)) x356001_19)) * x349002_19)))), .int .i64 x6_5, .int .i64 x349002_19, .int .i64 x349003_19, .int .i64 0, .int .i64 0]) ?_ 1 _ rfl; refine blk_put (cs := #[.int .i64 x5_5, .int .i64 x6_5, .int .i64 x349002_19, .int .i64 x349003_19, .int .i64 0, .int .i64 0]) ?_ 0 _ rfl; exact BK348.out⟩; have n2_ : Aside0 (((w49.setCell ⟨gb348, 0, none⟩ (.int .i64 (wrap64 (x5_5 + (wrap64 ((wrap64 (Int.tdiv (wrap64 ((Int.tmod (wrap64 ((Int.tmod t353 x356001_19) + x356001_19)) x356001_19) - t353)) x356001_19)) * x349002_19)))))).setCell ⟨gb348, 1, none⟩ (.int .i64 (wrap64 (x6_5 + (wrap64 ((wrap64 (Int.tdiv (wrap64 ((Int.tmod (wrap64 ((Int.tmod t353 x356001_19) + x356001_19)) x356001_19) - t353)) x356001_19)) * x349003_19)))))).heap[gb355]? = some (.cells #[.int .i64 t353, .int .i64 x356001_19] 38 (0, 0))) := ⟨by refine blk_far ?_ NB355_348.out _; refine blk_far ?_ NB355_348.out _; exact BK355.out⟩; have n3_ : Aside0 (Below w.heap.size w ((w49.setCell ⟨gb348, 0, none⟩ (.int .i64 (wrap64 (x5_5 + (wrap64 ((wrap64 (Int.tdiv (wrap64 ((Int.tmod (wrap64 ((Int.tmod t353 x356001_19) + x356001_19)) x356001_19) - t353)) x356001_19)) * x349002_19)))))).setCell ⟨gb348, 1, none⟩ (.int .i64 (wrap64 (x6_5 + (wrap64 ((wrap64 (Int.tdiv (wrap64 ((Int.tmod (wrap64 ((Int.tmod t353 x356001_19) + x356001_19)) x356001_19) - t353)) x356001_19)) * x349003_19))))))) := ⟨by repeat (first | (with_reducible first | exact HB.out | refine pS ?_ GE348.out) | exact HB.out)⟩; clear BK344 BK348 BK355 HB; generalize ((w49.setCell ⟨gb348, 0, none⟩ (.int .i64 (wrap64 (x5_5 + (wrap64 ((wrap64 (Int.tdiv (wrap64 ((Int.tmod (wrap64 ((Int.tmod t353 x356001_19) + x356001_19)) x356001_19) - t353)) x356001_19)) * x349002_19)))))).setCell ⟨gb348, 1, none⟩ (.int .i64 (wrap64 (x6_5 + (wrap64 ((wrap64 (Int.tdiv (wrap64 ((Int.tmod (wrap64 ((Int.tmod t353 x356001_19) + x356001_19)) x356001_19) - t353)) x356001_19)) * x349003_19)))))) = settled_ at n0_ n1_ n2_ n3_ ⊢; have BK344 := n0_; have BK348 := n1_; have BK355 := n2_; have HB := n3_; clear n0_ n1_ n2_ n3_; refine Kd.R_makecap kd_impl_Peg _ 38 rfl (N := 110) rfl 28 _ _ rfl (l0.length : Int) rfl rfl Try.underlying28 (.agg #[(.int .i64 0), (.int .i64 0)]) 16 info38 rfl (by decide) (by omega) z_impl_Peg (ok := fun _ => True) (okp := fun _ => True) (kd_impl_Peg_mkM _ _ _ z_impl_Peg ) (fun _ hk => hk) trivial (dT aQ) (Nat.le_trans (Nat.mul_le_mul_right _ (dT aQ : (l0.length : Int).toNat ≤ 17592186044416)) (by omega)) (Below.refl _ _) (Nat.le_refl _) ?_; intro v357 w55 ho56 hb hg_ hnew_; clear hg_ hnew_; (first | rw [← Ny356.out] at ho56 | (simp only [Int.reduceToNat] at ho56; rw [← Ny356.out] at ho56)); have HO358 := aM (Kd.R_lower (Kd.R_newB (Kd.R_newB ho56 (g := gb344) (o := .cells #[.int .i64 t342, .int .i64 t343] 38 (0, 0)) (fQ BK344)) (g := gb355) (o := .cells #[.int .i64 t353, .int .i64 x356001_19] 38 (0, 0)) (fQ BK355)) (pZ bE)); replace BK344 := aM (blk_below (g := gb344) (o := .cells #[.int .i64 t342, .int .i64 t343] 38 (0, 0)) (fQ BK344) hb); replace BK348 := aM (blk_below (g := gb348) (o := .cells #[.int .i64 (wrap64 (x5_5 + (wrap64 ((wrap64 (Int.tdiv (wrap64 ((Int.tmod (wrap64 ((Int.tmod t353 x356001_19) + x356001_19)) x356001_19) - t353)) x356001_19)) * x349002_19)))), .int .i64 (wrap64 (x6_5 + (wrap64 ((wrap64 (Int.tdiv (wrap64 ((Int.tmod (wrap64 ((Int.tmod t353 x356001_19) + x356001_19)) x356001_19) - t353)) x356001_19)) * x349003_19)))), .int .i64 x349002_19, .int .i64 x349003_19, .int .i64 0, .int .i64 0] 25 (0, 0)) (fQ BK348) hb); replace BK355 := aM (blk_below (g := gb355) (o := .cells #[.int .i64 t353, .int .i64 x356001_19] 38 (0, 0)) (fQ BK355) hb); replace HB := tB HB hb; clear hb ho56))
     go_loopg [11, 113] kj19 (fun kq v11 v113 w' => ∃ (x11_3 : List (S_impl_Peg)) (x113_3 : Int), v113 = .int .i64 x113_3 ∧ Aside0 (impl_frame.l0 kq l0 x11_3 l0 (l0.length : Int) x113_3 (wrap64 (x5_5 + (wrap64 ((wrap64 (Int.tdiv (wrap64 ((Int.tmod (wrap64 ((Int.tmod t353 x356001_19) + x356001_19)) x356001_19) - t353)) x356001_19)) * x349002_19)))) (wrap64 (x6_5 + (wrap64 ((wrap64 (Int.tdiv (wrap64 ((Int.tmod (wrap64 ((Int.tmod t353 x356001_19) + x356001_19)) x356001_19) - t353)) x356001_19)) * x349003_19)))) x349002_19 x349003_19 0 0 = some r) ∧ Aside0 (kq ≤ kj19) ∧ Aside0 (Kd.R kd_impl_Peg 38 w' w.heap.size (fun k_ => k_ ≠ gb344 ∧ k_ ≠ gb355) v11 x11_3) ∧ Aside0 (w'.heap[gb344]? = some (.cells #[.int .i64 t342, .int .i64 t343] 38 (0, 0))) ∧ Aside0 (w'.heap[gb348]? = some (.cells #[.int .i64 (wrap64 (x5_5 + (wrap64 ((wrap64 (Int.tdiv (wrap64 ((Int.tmod (wrap64 ((Int.tmod t353 x356001_19) + x356001_19)) x356001_19) - t353)) x356001_19)) * x349002_19)))), .int .i64 (wrap64 (x6_5 + (wrap64 ((wrap64 (Int.tdiv (wrap64 ((Int.tmod (wrap64 ((Int.tmod t353 x356001_19) + x356001_19)) x356001_19) - t353)) x356001_19)) * x349003_19)))), .int .i64 x349002_19, .int .i64 x349003_19, .int .i64 0, .int .i64 0] 25 (0, 0))) ∧ Aside0 (w'.heap[gb355]? = some (.cells #[.int .i64 t353, .int .i64 x356001_19] 38 (0, 0))) ∧ Aside0 (Below w.heap.size w w'))
     case atStart => exact ⟨(y356), (0), eQ, H', ⟨Nat.le_refl _⟩, ⟨by (with_reducible repeat (first | apply rA | apply rN | apply rD)); exact Kd.R_mono HO358.out (fun _ hk => ⟨hk.1.2, hk.2⟩)⟩, ⟨gQ BK344⟩, ⟨gQ BK348⟩, ⟨gQ BK355⟩, ⟨bE⟩⟩
     case round =>
      clear H'; (try clear c3); (try clear c46); (try clear c46b0); (try clear c46b1); (try clear c47); (try clear c47b0); (try clear c47b1); (try clear c48); (try clear c48b0); (try clear c48b1); (try clear hcz39_0); (try clear hcz39_1); (try clear hcz52_0); (try clear hcz52_1); (try clear hcz54_0); (try clear hcz54_1); (try clear hcz54_2); (try clear hcz54_3); (try clear hcz54_4); (try clear hcz54_5); (try clear hfz39_0); (try clear hfz39_1); (try clear hfz52_0); (try clear hfz52_1); (try clear hfz54_0); (try clear hfz54_1); (try clear hfz54_2); (try clear hfz54_3); (try clear hfz54_4); (try clear hfz54_5); (try clear hx349_0); (try clear hx349_1); (try clear hx350_0); (try clear hx350_1); (try clear p349); (try clear p350); (try clear q349); (try clear q350); obtain ⟨x11_3, x113_3, rfl, HA, HK3, HO_11, BK344, BK348, BK355, HB⟩ := hrel
      cases gk with
      | zero => exact absurd HA.out (by simp [impl_frame.l0])
      | succ k3 =>
       have H := HA.out; clear HA
       simp only [impl_frame.l0] at H
       by_cases c57 : x113_3 < (l0.length : Int)
       ·rw [if_pos c57] at H; have c57b0 := dE c57; clear c57; replace H := iD H; obtain ⟨c58b0, H⟩ := H; replace H := iD H; obtain ⟨c59b0, H⟩ := H; replace H := iN H; obtain ⟨c60, H⟩ := H; have c60b0 := dE c60; have c60b1 : decide (0 < l0.length) = true := dE (by omega)
        clear c60; replace H := bS H; obtain ⟨⟨t362, t363⟩, A61, H⟩ := H; replace H := bS H; obtain ⟨⟨t364, t365⟩, A62, H⟩ := H; replace H := iN H; obtain ⟨c63, H⟩ := H; have LMc63 := aM c63; clear c63; obtain ⟨y366, hy366⟩ : ∃ y_ : List (S_impl_Peg), y_ = (x11_3 ++ [(⟨t364, t365⟩ : S_impl_Peg)]) := ⟨_, rfl⟩; rw [← hy366] at H; have Ny366 := aM hy366; clear hy366; have H' := aM H; clear H; have p359 : 0 ≤ (x113_3 : Int) := dT aQ; have q359 : x113_3 < (l0.length : Int) := dT aQ; obtain ⟨ad359, e359, hx359_0, hx359_1⟩ := at_impl_Peg HR0.out x113_3 p359 q359; obtain rfl : ad340 = ad359 := (by injection e359)
        replace hx359_0 := hC HB hx359_0; replace hx359_1 := hC HB hx359_1; replace p359 := eq_true p359; replace q359 := eq_true q359
        try go_wp2_with (first | ((with_reducible refine gate_dst (N := 13) rfl ?_); refine bV 13 (cs := #[.int .i64 0, .int .i64 0]) (t := 38) rfl rfl (by first | (go_simp; done) | (go_simp; rfl)) ?_; intro gb360 hg w64 hbox hb; have BK360 := hbox; have GW360 := gZ HB hg; have GE360 := gZ HB hg; have NB344_360 := nG BK344 hg; have NB360_344 := nH BK344 hg; have NB348_360 := nG BK348 hg; have NB360_348 := nH BK348 hg; have NB355_360 := nG BK355 hg; have NB360_355 := nH BK355 hg; replace HO_11 := aM (Kd.R_below (Kd.R_elderB (by (with_reducible repeat (first | apply rA | apply rN | apply rD)); exact HO_11.out) gb360 (Nat.le_of_eq hg.symm)) hb); replace BK344 := bB BK344 hb; replace BK348 := bB BK348 hb; replace BK355 := bB BK355 hb; replace HB := tB HB hb; clear hb hbox hg; have hnb65 := NB360_344.out; have hnc65 := NB344_360.out; have hnb66 := NB360_348.out; have hnc66 := NB348_360.out; have hnb67 := NB360_355.out; have hnc67 := NB355_360.out; have hcz68_0 := vZ0 BK360; have hcz68_1 := vZ1 BK360; have hfz68_0 := kF BK360.out 0; have hfz68_1 := kF BK360.out 1))
        have n0_ : Aside0 (Kd.R kd_impl_Peg 38 ((w64.setCell ⟨gb360, 0, none⟩ (.int .i64 ((rd_impl_Peg l0 x113_3).f0))).setCell ⟨gb360, 1, none⟩ (.int .i64 ((rd_impl_Peg l0 x113_3).f1))) w.heap.size (fun k_ => k_ ≠ gb344 ∧ k_ ≠ gb355 ∧ k_ ≠ gb360) u11 x11_3) := ⟨by (with_reducible repeat (first | apply rA | apply rN | apply rD)); exact Kd.R_mono (Kd.R_far (p := ⟨gb360, 1, none⟩) (Kd.R_far (p := ⟨gb360, 0, none⟩) (Kd.R_mono HO_11.out (fun k_ hk => (⟨hk, hk.2⟩ : _ ∧ k_ ≠ gb360))) (fun _ hk => hk.2) (.int .i64 ((rd_impl_Peg l0 x113_3).f0))) (fun _ hk => hk.2) (.int .i64 ((rd_impl_Peg l0 x113_3).f1))) (fun _ hk => ⟨hk.1.1.1, ⟨hk.1.1.2, hk.1.2⟩⟩)⟩
        have n1_ : Aside0 (((w64.setCell ⟨gb360, 0, none⟩ (.int .i64 ((rd_impl_Peg l0 x113_3).f0))).setCell ⟨gb360, 1, none⟩ (.int .i64 ((rd_impl_Peg l0 x113_3).f1))).heap[gb344]? = some (.cells #[.int .i64 t342, .int .i64 t343] 38 (0, 0))) := ⟨fQ BK344⟩; have n2_ : Aside0 (((w64.setCell ⟨gb360, 0, none⟩ (.int .i64 ((rd_impl_Peg l0 x113_3).f0))).setCell ⟨gb360, 1, none⟩ (.int .i64 ((rd_impl_Peg l0 x113_3).f1))).heap[gb348]? = some (.cells #[.int .i64 (wrap64 (x5_5 + (wrap64 ((wrap64 (Int.tdiv (wrap64 ((Int.tmod (wrap64 ((Int.tmod t353 x356001_19) + x356001_19)) x356001_19) - t353)) x356001_19)) * x349002_19)))), .int .i64 (wrap64 (x6_5 + (wrap64 ((wrap64 (Int.tdiv (wrap64 ((Int.tmod (wrap64 ((Int.tmod t353 x356001_19) + x356001_19)) x356001_19) - t353)) x356001_19)) * x349003_19)))), .int .i64 x349002_19, .int .i64 x349003_19, .int .i64 0, .int .i64 0] 25 (0, 0))) := ⟨fQ BK348⟩; have n3_ : Aside0 (((w64.setCell ⟨gb360, 0, none⟩ (.int .i64 ((rd_impl_Peg l0 x113_3).f0))).setCell ⟨gb360, 1, none⟩ (.int .i64 ((rd_impl_Peg l0 x113_3).f1))).heap[gb355]? = some (.cells #[.int .i64 t353, .int .i64 x356001_19] 38 (0, 0))) := ⟨fQ BK355⟩; have n4_ : Aside0 (((w64.setCell ⟨gb360, 0, none⟩ (.int .i64 ((rd_impl_Peg l0 x113_3).f0))).setCell ⟨gb360, 1, none⟩ (.int .i64 ((rd_impl_Peg l0 x113_3).f1))).heap[gb360]? = some (.cells #[.int .i64 ((rd_impl_Peg l0 x113_3).f0), .int .i64 ((rd_impl_Peg l0 x113_3).f1)] 38 (0, 0))) := ⟨fQ BK360⟩; have n5_ : Aside0 (Below w.heap.size w ((w64.setCell ⟨gb360, 0, none⟩ (.int .i64 ((rd_impl_Peg l0 x113_3).f0))).setCell ⟨gb360, 1, none⟩ (.int .i64 ((rd_impl_Peg l0 x113_3).f1)))) := ⟨bE⟩; (try clear HO_11); (try clear BK344); (try clear BK348); (try clear BK355); (try clear BK360); (try clear HB)
        generalize ((w64.setCell ⟨gb360, 0, none⟩ (.int .i64 ((rd_impl_Peg l0 x113_3).f0))).setCell ⟨gb360, 1, none⟩ (.int .i64 ((rd_impl_Peg l0 x113_3).f1))) = w69 at n0_ n1_ n2_ n3_ n4_ n5_ ⊢
        have HO_11 := n0_; have BK344 := n1_; have BK348 := n2_; have BK355 := n3_; have BK360 := n4_; have HB := n5_; clear n0_ n1_ n2_ n3_ n4_ n5_; replace HO_11 := aM (rD HO_11.out); replace BK344 := aM (kD BK344.out); replace BK348 := aM (kD BK348.out); replace BK355 := aM (kD BK355.out); replace BK360 := aM (kD BK360.out); replace HB := aM (pD HB.out); have p361 : 0 ≤ (0 : Int) := (by omega)
        have q361 : 0 < (l0.length : Int) := dT aQ; obtain ⟨ad361, e361, hx361_0, hx361_1⟩ := at_impl_Peg HR0.out 0 p361 q361; have hw361_1 := hx361_1
        (try rw [show ((0 : Int)).toNat = 0 from rfl] at hw361_1)
        (try rw [show 0 * 2 = 0 from rfl] at hw361_1)
        (try rw [Addr.add_zero'] at hw361_1)
        have hw361_0 := hx361_0
        (try rw [show ((0 : Int)).toNat = 0 from rfl] at hw361_0)
        (try rw [show 0 * 2 = 0 from rfl] at hw361_0)
        (try rw [Addr.add_zero'] at hw361_0)
        obtain rfl : ad340 = ad361 := (by injection e361)
        have qi361 : (0 < l0.length) = True := eq_true (by omega)
        (try rw [show ((0 : Int)).toNat = 0 from rfl] at hx361_0)
        (try rw [show 0 * 2 = 0 from rfl] at hx361_0)
        (try rw [Addr.add_zero'] at hx361_0)
        (try rw [show ((0 : Int)).toNat = 0 from rfl] at hx361_1)
        (try rw [show 0 * 2 = 0 from rfl] at hx361_1)
        (try rw [Addr.add_zero'] at hx361_1)
        replace hx361_0 := hC HB hx361_0; replace hx361_1 := hC HB hx361_1; replace p361 := eq_true p361; replace q361 := eq_true q361
        refine start_ (n := 11) (S := fun w' => w'.cell? ⟨gb348, 0, none⟩ = some (.int .i64 (wrap64 (x5_5 + (wrap64 ((wrap64 (Int.tdiv (wrap64 ((Int.tmod (wrap64 ((Int.tmod t353 x356001_19) + x356001_19)) x356001_19) - t353)) x356001_19)) * x349002_19))))) ∧ w'.cell? ⟨gb348, 1, none⟩ = some (.int .i64 (wrap64 (x6_5 + (wrap64 ((wrap64 (Int.tdiv (wrap64 ((Int.tmod (wrap64 ((Int.tmod t353 x356001_19) + x356001_19)) x356001_19) - t353)) x356001_19)) * x349003_19))))) ∧ w'.cell? ⟨gb348, 2, none⟩ = some (.int .i64 x349002_19) ∧ w'.cell? ⟨gb348, 3, none⟩ = some (.int .i64 x349003_19) ∧ w'.cell? ⟨gb348, 4, none⟩ = some (.int .i64 0) ∧ w'.cell? ⟨gb348, 5, none⟩ = some (.int .i64 0) ∧ w'.cell? ⟨gb360, 0, none⟩ = some (.int .i64 ((rd_impl_Peg l0 x113_3).f0)) ∧ w'.cell? ⟨gb360, 1, none⟩ = some (.int .i64 ((rd_impl_Peg l0 x113_3).f1)) ∧ w'.cell? ad340 = some (.int .i64 ((rd_impl_Peg l0 0).f0)) ∧ w'.cell? ⟨ad340.block, ad340.off + 1, none⟩ = some (.int .i64 ((rd_impl_Peg l0 0).f1))) (ds := []) (bA 11 0) kR rfl kR ⟨vZ0 BK348, vZ1 BK348, vZ2 BK348, vZ3 BK348, vZ4 BK348, vZ5 BK348, vZ0 BK360, vZ1 BK360, (hC HB hw361_0 :), (hC HB hw361_1 :)⟩ (fun hHeld => ?_); refine with_tabW impl_frame.tab16 impl_frame.bits16 (fun HT_ HW_ => ?_)
        generalize w69.drew = w70 at HO_11 BK344 BK348 BK355 BK360 HB hx361_0 hx361_1 hHeld ⊢
        refine pU 0 117 (bA 11 1) HT_ ?_; refine pU 3 120 (bA 11 9) HT_ ?_; refine pU 4 121 (bA 11 25) HT_ ?_
        refine tU 1 118 (bA 11 27) HT_ HW_ hHeld ?_ (hy := Or.inl ⟨by rfl, by rintro w' ⟨s0, s1, s2, s3, s4, s5, s6, s7, s8, s9⟩; go_simp; with_reducible rfl⟩)
        refine tU 2 119 (bA 11 31) HT_ HW_ hHeld ?_ (hy := Or.inl ⟨by rfl, by rintro w' ⟨s0, s1, s2, s3, s4, s5, s6, s7, s8, s9⟩; go_simp; with_reducible rfl⟩)
        refine tU 5 122 (bA 11 63) HT_ HW_ hHeld ?_ (hy := Or.inl ⟨by rfl, by rintro w' ⟨s0, s1, s2, s3, s4, s5, s6, s7, s8, s9⟩; go_simp; with_reducible rfl⟩)
        refine oU 6 123 (bA 11 127) HT_ (fun K hK => ?_)
        refine goes_ Try.func35 kR rfl #[.agg #[.int .i64 ((rd_impl_Peg l0 x113_3).f0), .int .i64 ((rd_impl_Peg l0 x113_3).f1)], .agg #[.int .i64 ((rd_impl_Peg l0 0).f0), .int .i64 ((rd_impl_Peg l0 0).f1)]] (by rfl) rfl rfl sQ ?_
        with_reducible refine (impl_Peg_less.calls ((rd_impl_Peg l0 x113_3).f0) ((rd_impl_Peg l0 x113_3).f1) ((rd_impl_Peg l0 0).f0) ((rd_impl_Peg l0 0).f1) t362 t363 _ A61.out).mono ?_
        rintro e w71 ⟨rfl, hb⟩; refine ⟨_, rfl, ?_⟩; replace HO_11 := aM (Kd.R_below (by (with_reducible repeat (first | apply rA | apply rN | apply rD)); exact HO_11.out) hb); replace BK344 := bB BK344 hb; replace BK348 := bB BK348 hb; replace BK355 := bB BK355 hb; replace BK360 := bB BK360 hb; replace HB := tB HB hb
        (try clear hb); (try clear hb2); (try clear hk); (try clear hi)
        refine hK.out _ _ ⟨vZ0 BK348, vZ1 BK348, vZ2 BK348, vZ3 BK348, vZ4 BK348, vZ5 BK348, vZ0 BK360, vZ1 BK360, (hC HB hw361_0 :), (hC HB hw361_1 :)⟩ (fun hHeld => ?_)
        clear hK K
        refine nU ?_
        refine oU 7 124 (bA 11 255) HT_ (fun K hK => ?_)
        refine goes_ Try.func37 kR rfl #[.agg #[.int .i64 (wrap64 (x5_5 + (wrap64 ((wrap64 (Int.tdiv (wrap64 ((Int.tmod (wrap64 ((Int.tmod t353 x356001_19) + x356001_19)) x356001_19) - t353)) x356001_19)) * x349002_19)))), .int .i64 (wrap64 (x6_5 + (wrap64 ((wrap64 (Int.tdiv (wrap64 ((Int.tmod (wrap64 ((Int.tmod t353 x356001_19) + x356001_19)) x356001_19) - t353)) x356001_19)) * x349003_19)))), .int .i64 x349002_19, .int .i64 x349003_19, .int .i64 0, .int .i64 0], .agg #[.int .i64 t362, .int .i64 t363]] (by rfl) rfl rfl sQ ?_
        with_reducible refine (impl_Move_bring.calls (wrap64 (x5_5 + (wrap64 ((wrap64 (Int.tdiv (wrap64 ((Int.tmod (wrap64 ((Int.tmod t353 x356001_19) + x356001_19)) x356001_19) - t353)) x356001_19)) * x349002_19)))) (wrap64 (x6_5 + (wrap64 ((wrap64 (Int.tdiv (wrap64 ((Int.tmod (wrap64 ((Int.tmod t353 x356001_19) + x356001_19)) x356001_19) - t353)) x356001_19)) * x349003_19)))) x349002_19 x349003_19 0 0 t362 t363 t364 t365 _ A62.out).mono ?_
        rintro e w72 ⟨rfl, hb⟩; refine ⟨_, rfl, ?_⟩; replace HO_11 := aM (Kd.R_below (by (with_reducible repeat (first | apply rA | apply rN | apply rD)); exact HO_11.out) hb); replace BK344 := bB BK344 hb; replace BK348 := bB BK348 hb; replace BK355 := bB BK355 hb; replace BK360 := bB BK360 hb; replace HB := tB HB hb
        (try clear hb); (try clear hb2); (try clear hk); (try clear hi)
        refine hK.out _ _ ⟨vZ0 BK348, vZ1 BK348, vZ2 BK348, vZ3 BK348, vZ4 BK348, vZ5 BK348, vZ0 BK360, vZ1 BK360, (hC HB hw361_0 :), (hC HB hw361_1 :)⟩ (fun hHeld => ?_)
        clear hK K
        refine nU ?_
        refine oU 8 125 (bA 11 511) HT_ (fun K hK => ?_)
        refine value_ (w1 := ?_) (v := ?_) (by rfl) rfl ?_ ?_
        rotate_left 2
        ·go_simp
         constructor
         ·rfl
         ·rfl
        refine hK.out _ _ ⟨(kC (kA BK348.out _) 0).trans rfl, (kC (kA BK348.out _) 1).trans rfl, (kC (kA BK348.out _) 2).trans rfl, (kC (kA BK348.out _) 3).trans rfl, (kC (kA BK348.out _) 4).trans rfl, (kC (kA BK348.out _) 5).trans rfl, (kC (kA BK360.out _) 0).trans rfl, (kC (kA BK360.out _) 1).trans rfl, (World.cell?_alloc_lt _ _ _ (wB _ _ ((hC HB hw361_0 :)))).trans ((hC HB hw361_0 :)), (World.cell?_alloc_lt _ _ _ (wB _ _ ((hC HB hw361_1 :)))).trans ((hC HB hw361_1 :))⟩ (fun hHeld => ?_)
        clear hK K
        refine nU ?_
        refine oU 9 126 (bA 11 1023) HT_ (fun K hK => ?_)
        refine Kd.R_append_step kd_impl_Peg (w0 := w) w.heap.size (by rfl) (.tmp 117) (.tmp 125) 28 38 (.agg #[(.int .i64 0), (.int .i64 0)]) 16 rfl Try.underlying28 info38 rfl (by decide) (by omega) u11 x11_3 (⟨t364, t365⟩ : S_impl_Peg) [.int .i64 t364, .int .i64 t365] (fun k_ => k_ ≠ gb344 ∧ k_ ≠ gb355 ∧ k_ ≠ gb360) (fun _ => False) rfl rfl ?aP (fun _ hk => hk.elim) ?aF ?aO ?aB ?aS ?aL ?_
        (case aP => exact kd_impl_Peg_mkM _ _ _ (⟨t364, t365⟩ : S_impl_Peg))
        (case aB => exact bE)
        (case aF => exact (fun k_ hk => ⟨Kd.freshB (g := gb344) (o := .cells #[.int .i64 t342, .int .i64 t343] 38 (0, 0)) (gQ BK344) k_ hk, Kd.freshB (g := gb355) (o := .cells #[.int .i64 t353, .int .i64 x356001_19] 38 (0, 0)) (gQ BK355) k_ hk, Kd.freshB (g := gb360) (o := .cells #[.int .i64 ((rd_impl_Peg l0 x113_3).f0), .int .i64 ((rd_impl_Peg l0 x113_3).f1)] 38 (0, 0)) (gQ BK360) k_ hk⟩))
        (case aO => exact (by (with_reducible repeat (first | apply rA | apply rN | apply rD)); exact HO_11.out))
        (case aS => exact (pZ bE))
        (case aL => have := LMc63.out; omega)
        intro v367 w73 ho hb hg hat
        rw [← Ny366.out] at ho; have n0_ := aM (blk_grown (g := gb344) (o := .cells #[.int .i64 t342, .int .i64 t343] 38 (0, 0)) (gQ BK344) hg (Kd.R_away HO_11.out (fun _ hk => hk.1))); have n1_ := aM (blk_grown (g := gb348) (o := .cells #[.int .i64 (wrap64 (x5_5 + (wrap64 ((wrap64 (Int.tdiv (wrap64 ((Int.tmod (wrap64 ((Int.tmod t353 x356001_19) + x356001_19)) x356001_19) - t353)) x356001_19)) * x349002_19)))), .int .i64 (wrap64 (x6_5 + (wrap64 ((wrap64 (Int.tdiv (wrap64 ((Int.tmod (wrap64 ((Int.tmod t353 x356001_19) + x356001_19)) x356001_19) - t353)) x356001_19)) * x349003_19)))), .int .i64 x349002_19, .int .i64 x349003_19, .int .i64 0, .int .i64 0] 25 (0, 0)) (gQ BK348) hg (Kd.R_ne HO_11.out BK348.out (by decide)))
        have n2_ := aM (blk_grown (g := gb355) (o := .cells #[.int .i64 t353, .int .i64 x356001_19] 38 (0, 0)) (gQ BK355) hg (Kd.R_away HO_11.out (fun _ hk => hk.2.1))); have n3_ := aM (blk_grown (g := gb360) (o := .cells #[.int .i64 ((rd_impl_Peg l0 x113_3).f0), .int .i64 ((rd_impl_Peg l0 x113_3).f1)] 38 (0, 0)) (gQ BK360) hg (Kd.R_away HO_11.out (fun _ hk => hk.2.2))); have n4_ := aM (hb); have n5_ := aM (ho); clear BK344; clear BK348; clear BK355; clear BK360; clear HB; clear HO_11; have BK344 := n0_; have BK348 := n1_; have BK355 := n2_; have BK360 := n3_; have HB := n4_; have HO368 := n5_; clear n0_ n1_ n2_ n3_ n4_ n5_; clear ho hb hg hat
        refine hK.out _ _ ⟨vZ0 BK348, vZ1 BK348, vZ2 BK348, vZ3 BK348, vZ4 BK348, vZ5 BK348, vZ0 BK360, vZ1 BK360, (hC HB hw361_0 :), (hC HB hw361_1 :)⟩ (fun hHeld => ?_)
        clear hK K
        refine nU ?_
        refine pU 10 11 (bA 11 2047) HT_ ?_
        refine done_ (done_of HT_.out kR) ?_
        try go_wp2
        go_roundg k3
        case measure => have := HJ5.out; have := HJ19.out; have := HK3.out; omega
        case rel => exact ⟨(y366), (wrap64 (x113_3 + 1)), eQ, H', ⟨by have := HJ5.out; have := HJ19.out; have := HK3.out; omega⟩, ⟨by (with_reducible repeat (first | apply rA | apply rN | apply rD)); exact Kd.R_mono HO368.out (fun _ hk => ⟨hk.1, hk.2.1⟩)⟩, ⟨gQ BK344⟩, ⟨gQ BK348⟩, ⟨gQ BK355⟩, ⟨bE⟩⟩
       ·rw [if_neg c57] at H; have c57b0 := decide_eq_false c57; clear c57; obtain rfl := Option.some.inj H; go_wp2
        go_ret
        exact ⟨_, by first | rfl | (simp [errW_none, errW_some] <;> rfl) | (simp [*, errW_none, errW_some] <;> rfl), by (with_reducible repeat (first | apply rA | apply rN | apply rD)); exact Kd.R_mono HO_11.out (fun _ hk => trivial), bE⟩
end Go.Proofs.Ytphkphjddkjabaa.X
