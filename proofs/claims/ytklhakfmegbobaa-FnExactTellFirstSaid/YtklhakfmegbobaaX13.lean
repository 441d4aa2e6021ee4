-- thin
-- short
-- compact
import Derived.Test.YtklhakfmegbobaaXA
import Derived.Test.YtklhakfmegbobaaX0
import Derived.Test.YtklhakfmegbobaaX9
import Derived.Test.YtklhakfmegbobaaX11
import Derived.Test.YtklhakfmegbobaaX12
namespace Go.Proofs.Ytklhakfmegbobaa.X
open Go.RowKit Go.Proofs.Ytklhakfmegbobaa.XW Go.Proofs.YtklhakfmegbobaaW.PrintWords Go.Proofs.YtklhakfmegbobaaW.PrintLast Go.Proofs.YtklhakfmegbobaaW.PrintMore
attribute [local go_sem] max2_int min2_int max_two min_two max_three min_three max_four min_four   -- for this text's walks alone
set_option linter.unusedVariables false
set_option linter.unusedSimpArgs false

def impl_comparePegs.f (k : Nat) (a0_0 : Int) (a0_1 : Int) (a1_0 : Int) (a1_1 : Int) : Option (Int) := (cmp_Compare_int.f a0_0 a1_0).bind fun t295 => ((cmp_Compare_int.f a0_1 a1_1).bind fun t296 => ((cmp_Or_int.f k (([t295, t296] : List Int))).bind fun t300 => (some t300)))
theorem impl_comparePegs.mono : ∀ a0 a1 a2 a3 k, LeO (impl_comparePegs.f k a0 a1 a2 a3) (impl_comparePegs.f (k + 1) a0 a1 a2 a3) := by
 intro a0 a1 a2 a3 k
 unfold impl_comparePegs.f
 repeat' first | (with_reducible exact cmp_Or_int.mono _ _) | (with_reducible exact LeO.refl _) | (with_reducible exact LeO.none _) | (with_reducible refine LeO.ite ?_ ?_) | (with_reducible refine LeO.bind ?_ (fun _ => ?_)) | exact cmp_Or_int.mono _ _ | exact LeO.none _ | refine LeO.ite ?_ ?_ | refine LeO.bind ?_ (fun _ => ?_)
def impl_comparePegs.T1 : Bool × List (List Nat × List Nat) := (true, [([], []), ([0], [0]), ([], []), ([2], [2]), ([1, 3], [1, 3]), ([], []), ([5], [5]), ([], []), ([7], [7]), ([6, 8, 4], [6, 8]), ([4, 9], [4, 9]), ([10, 9], [10]), ([11, 11, 0, 1, 2, 3, 4, 5, 6, 7, 8, 9, 10, 11], [11])])
def impl_comparePegs.B1 : List Nat := [0, 1, 0, 4, 15, 0, 32, 0, 128, 511, 1023, 2047, 4095]
theorem impl_comparePegs.tab1 : rtab .any (opsOf Try.f140 1) = impl_comparePegs.T1 := by kernel_rfl
theorem impl_comparePegs.bits1 : waitsOk impl_comparePegs.T1.2 impl_comparePegs.B1 = true := by kernel_rfl
set_option maxHeartbeats 8000000 in
set_option maxRecDepth 100000 in
theorem impl_comparePegs.calls (k : Nat) (a0_0 : Int) (a0_1 : Int) (a1_0 : Int) (a1_1 : Int) (r : Int) (w : World) (h : impl_comparePegs.f k a0_0 a0_1 a1_0 a1_1 = some r) :
  Calls Try.prog 140 #[.agg #[.int .i64 a0_0, .int .i64 a0_1], .agg #[.int .i64 a1_0, .int .i64 a1_1]] w fun e w' => e = .returned (.int .i64 r) ∧ Below w.heap.size w w' := by
 have hu26 := Try.underlying26; have HB := aM (Below.refl w.heap.size w)
 unfold impl_comparePegs.f at h; have H := h; clear h
 replace H := bS H; obtain ⟨t295, A3, H⟩ := H; replace H := bS H; obtain ⟨t296, A4, H⟩ := H; obtain ⟨y297, hy297⟩ : ∃ y_ : List Int, y_ = (([t295, t296] : List Int)) := ⟨_, rfl⟩; rw [← hy297] at H; have Ny297 := aM hy297; clear hy297; replace H := bS H; obtain ⟨t300, A5, H⟩ := H; obtain rfl := Option.some.inj H
 go_enter Try.func140, Try.ntmps140
 try go_wp2_with (first | ((with_reducible refine gate_dst (N := 2) rfl ?_); refine bV 2 (cs := #[.int .i64 a0_0, .int .i64 a0_1]) (t := 26) rfl rfl (by first | (go_simp; done) | (go_simp; rfl)) ?_; intro gb293 hg w6 hbox hb; have BK293 := hbox; have GW293 := gZ HB hg; have GE293 := gZ HB hg; replace HB := tB HB hb; clear hb hbox hg) | ((with_reducible refine gate_dst (N := 3) rfl ?_); refine bV 3 (cs := #[.int .i64 a1_0, .int .i64 a1_1]) (t := 26) rfl rfl (by first | (go_simp; done) | (go_simp; rfl)) ?_; intro gb294 hg w7 hbox hb; have BK294 := hbox; have GW294 := gZ HB hg; have GE294 := gZ HB hg; have NB293_294 := nG BK293 hg; have NB294_293 := nH BK293 hg; replace BK293 := bB BK293 hb; replace HB := tB HB hb; clear hb hbox hg))
 replace BK293 := aM (kD BK293.out); replace BK294 := aM (kD BK294.out); replace HB := aM (pD HB.out)
 refine start_ (n := 13) (S := fun w' => w'.cell? ⟨gb293, 0, none⟩ = some (.int .i64 a0_0) ∧ w'.cell? ⟨gb293, 1, none⟩ = some (.int .i64 a0_1) ∧ w'.cell? ⟨gb294, 0, none⟩ = some (.int .i64 a1_0) ∧ w'.cell? ⟨gb294, 1, none⟩ = some (.int .i64 a1_1)) (ds := []) (bA 13 0) kR rfl kR ⟨vZ0 BK293, vZ1 BK293, vZ0 BK294, vZ1 BK294⟩ (fun hHeld => ?_); refine with_tabW impl_comparePegs.tab1 impl_comparePegs.bits1 (fun HT_ HW_ => ?_)
 generalize w7.drew = w8 at BK293 BK294 HB hHeld ⊢
 refine pU 0 5 (bA 13 1) HT_ ?_; refine pU 2 7 (bA 13 5) HT_ ?_; refine pU 5 10 (bA 13 37) HT_ ?_; refine pU 7 12 (bA 13 165) HT_ ?_
 refine tU 1 6 (bA 13 167) HT_ HW_ hHeld ?_ (hy := Or.inl ⟨by rfl, by rintro w' ⟨s0, s1, s2, s3⟩; go_simp; with_reducible rfl⟩)
 refine tU 3 8 (bA 13 175) HT_ HW_ hHeld ?_ (hy := Or.inl ⟨by rfl, by rintro w' ⟨s0, s1, s2, s3⟩; go_simp; with_reducible rfl⟩)
 refine tU 6 11 (bA 13 239) HT_ HW_ hHeld ?_ (hy := Or.inl ⟨by rfl, by rintro w' ⟨s0, s1, s2, s3⟩; go_simp; with_reducible rfl⟩)
 refine tU 8 13 (bA 13 495) HT_ HW_ hHeld ?_ (hy := Or.inl ⟨by rfl, by rintro w' ⟨s0, s1, s2, s3⟩; go_simp; with_reducible rfl⟩)
 refine oU 4 9 (bA 13 511) HT_ (fun K hK => ?_)
 refine goes_ Try.func146 kR rfl #[.int .i64 a0_0, .int .i64 a1_0] (by rfl) rfl rfl sQ ?_
 with_reducible refine (cmp_Compare_int.calls a0_0 a1_0 t295 _ A3.out).mono ?_
 rintro e w' ⟨rfl, ⟨nd, rfl⟩⟩; refine ⟨_, rfl, ?_⟩
 refine hK.out _ _ ⟨vZ0 BK293, vZ1 BK293, vZ0 BK294, vZ1 BK294⟩ (fun hHeld => ?_)
 clear hK K
 refine nU ?_
 refine oU 9 14 (bA 13 1023) HT_ (fun K hK => ?_)
 refine goes_ Try.func146 kR rfl #[.int .i64 a0_1, .int .i64 a1_1] (by rfl) rfl rfl sQ ?_
 with_reducible refine (cmp_Compare_int.calls a0_1 a1_1 t296 _ A4.out).mono ?_
 rintro e w' ⟨rfl, ⟨nd, rfl⟩⟩; refine ⟨_, rfl, ?_⟩
 refine hK.out _ _ ⟨vZ0 BK293, vZ1 BK293, vZ0 BK294, vZ1 BK294⟩ (fun hHeld => ?_)
 clear hK K
 refine nU ?_
 refine oU 10 15 (bA 13 2047) HT_ (fun K hK => ?_)
 refine Kd.R_lit_step (Kd.int .i64) _ 3 ?hg (N := 15) ?hd (xs := ([t295, t296] : List Int)) (inner := [.int .i64 t295, .int .i64 t296]) (ok := fun _ => True) (okp := fun _ => True) ?hr ?hp (fun _ hk => hk) trivial (Below.refl _ _) (Nat.le_refl _) (by simp) ?_; (case hd => rfl); (case hg => rfl); (case hr => first | (go_simp; done) | (go_simp; rfl)); (case hp => exact (Reps.one (show Kd.M (Kd.int .i64) _ _ _ t295 [.int .i64 t295] from rfl) (Reps.one (show Kd.M (Kd.int .i64) _ _ _ t296 [.int .i64 t296] from rfl) (Reps.none _ _))))
 intro v298 w9 ho10 hb hg_ hnew_
 clear hg_ hnew_
 (first | rw [← Ny297.out] at ho10 | (simp only [Int.reduceToNat] at ho10; rw [← Ny297.out] at ho10))
 have HO299 := aM (Kd.R_lower ho10 (pZ bE)); replace BK293 := bB BK293 hb; replace BK294 := bB BK294 hb; replace HB := tB HB hb; clear hb ho10; obtain ⟨Ao11, co11, eo11⟩ := Kd.R_slice HO299.out
 (first | subst eo11 | (injection eo11 with f1_ f2_ f3_; have f4_ := f1_.symm; have f5_ := f3_.symm; clear f1_ f2_ f3_; subst f4_; subst f5_))
 refine hK.out _ _ ⟨vZ0 BK293, vZ1 BK293, vZ0 BK294, vZ1 BK294⟩ (fun hHeld => ?_)
 clear hK K
 refine nU ?_
 refine oU 11 16 (bA 13 4095) HT_ (fun K hK => ?_)
 refine goes_ Try.func145 kR rfl #[.slice Ao11 y297.length co11] (by rfl) rfl rfl sQ ?_
 with_reducible refine (cmp_Or_int.calls k _ _ y297 t300 _ ?side1 ?side2 A5.out).mono ?_
 (case side1 => repeat (first | exact (rR HO299.out).2.2 | (with_reducible refine cA ?_ _) | (with_reducible refine cN ?_ _) | (with_reducible refine cD ?_)))
 (case side2 => exact (rR HO299.out).2.1)
 rintro e w' ⟨rfl, ⟨nd, rfl⟩⟩; refine ⟨_, rfl, ?_⟩
 refine hK.out _ _ ⟨vZ0 BK293, vZ1 BK293, vZ0 BK294, vZ1 BK294⟩ (fun hHeld => ?_)
 clear hK K
 refine nU ?_
 refine pU 12 4 (bA 13 8191) HT_ ?_
 refine done_ (done_of HT_.out kR) ?_
 try go_wp2
 go_ret
 exact ⟨wQ, bE⟩

def impl_first.l0 : Nat → List (S_impl_Peg) → Int → List (S_impl_Peg) → Int → Int → Option (Int)
 | 0, _, _, _, _, _ => none
 | k + 1, x0, x3, x6, x7, x8 => if x8 < x7 then (if 0 ≤ x8 then (if x8 < (x6.length : Int) then (if 0 ≤ x3 then (if x3 < (x0.length : Int) then ((impl_comparePegs.f k ((rd_impl_Peg x6 x8).f0) ((rd_impl_Peg x6 x8).f1) ((rd_impl_Peg x0 x3).f0) ((rd_impl_Peg x0 x3).f1)).bind fun t304 => (if t304 < 0 then (impl_first.l0 k x0 x8 x6 x7 (wrap64 (x8 + 1))) else (impl_first.l0 k x0 x3 x6 x7 (wrap64 (x8 + 1))))) else (none)) else (none)) else (none)) else (none)) else (some x3)
def impl_first.f (k : Nat) (l0 : List (S_impl_Peg)) : Option (Int) := impl_first.l0 k l0 0 l0 (l0.length : Int) 0
theorem impl_first.mono_l : ∀ k, (∀ y0 y1 y2 y3 y4, LeO (impl_first.l0 k y0 y1 y2 y3 y4) (impl_first.l0 (k + 1) y0 y1 y2 y3 y4))
 | 0 => fun _ _ _ _ _ r h => by simp [impl_first.l0] at h
 | k + 1 => by
  have ih0 := impl_first.mono_l k
  ·intro y0 y1 y2 y3 y4
   unfold impl_first.l0
   repeat' first
   | (with_reducible exact ih0 _ _ _ _ _)
   | (with_reducible exact impl_comparePegs.mono _ _ _ _ _)
   | (with_reducible exact LeO.refl _)
   | (with_reducible exact LeO.none _)
   | (with_reducible refine LeO.ite ?_ ?_)
   | (with_reducible refine LeO.bind ?_ (fun _ => ?_))
   | exact ih0 _ _ _ _ _
   | exact impl_comparePegs.mono _ _ _ _ _
   | exact LeO.none _
   | refine LeO.ite ?_ ?_
   | refine LeO.bind ?_ (fun _ => ?_)
theorem impl_first.mono : ∀ a0 k, LeO (impl_first.f k a0) (impl_first.f (k + 1) a0) := by
 intro a0 k
 have ih0 := impl_first.mono_l k
 unfold impl_first.f
 repeat' first | (with_reducible exact ih0 _ _ _ _ _) | (with_reducible exact impl_comparePegs.mono _ _ _ _ _) | (with_reducible exact LeO.refl _) | (with_reducible exact LeO.none _) | (with_reducible refine LeO.ite ?_ ?_) | (with_reducible refine LeO.bind ?_ (fun _ => ?_)) | exact ih0 _ _ _ _ _ | exact impl_comparePegs.mono _ _ _ _ _ | exact LeO.none _ | refine LeO.ite ?_ ?_ | refine LeO.bind ?_ (fun _ => ?_)
set_option maxHeartbeats 8000000 in
set_option maxRecDepth 100000 in
theorem impl_first.calls (k : Nat) (A0 : Option Addr) (c0 : Nat) (l0 : List (S_impl_Peg)) (r : Int) (w : World) (hr0 : Kd.C kd_impl_Peg w A0 l0.length l0) (hc0 : l0.length ≤ c0) (h : impl_first.f k l0 = some r) :
  Calls Try.prog 123 #[.slice A0 l0.length c0] w fun e w' => e = .returned (.int .i64 r) ∧ Below w.heap.size w w' := by
 have hu26 := Try.underlying26; have HR0 := aM hr0; have HC0 := aM hc0; clear hr0 hc0; have HB := aM (Below.refl w.heap.size w)
 unfold impl_first.f at h; have H := h; clear h
 have H' := aM H; clear H
 go_enter Try.func123, Try.ntmps123
 go_wp2
 go_loopg [3, 8] k (fun kq v3 v8 w' => ∃ (x3_1 : Int) (x8_1 : Int), v3 = .int .i64 x3_1 ∧ v8 = .int .i64 x8_1 ∧ Aside0 (impl_first.l0 kq l0 x3_1 l0 (l0.length : Int) x8_1 = some r) ∧ Aside0 (kq ≤ k) ∧ Aside0 (Below w.heap.size w w'))
 case atStart => exact ⟨(0), (0), eQ, eQ, H', ⟨Nat.le_refl _⟩, ⟨bQ⟩⟩
 case round =>
  clear H'; obtain ⟨x3_1, x8_1, rfl, rfl, HA, HK1, HB⟩ := hrel
  cases gk with
  | zero => exact absurd HA.out (by simp [impl_first.l0])
  | succ k1 =>
   have H := HA.out; clear HA
   simp only [impl_first.l0] at H
   by_cases c2 : x8_1 < (l0.length : Int)
   ·rw [if_pos c2] at H; have c2b0 := dE c2; clear c2; replace H := iD H; obtain ⟨c3b0, H⟩ := H; replace H := iD H; obtain ⟨c4b0, H⟩ := H; replace H := iD H; obtain ⟨c5b0, H⟩ := H; replace H := iD H; obtain ⟨c6b0, H⟩ := H; replace H := bS H; obtain ⟨t304, A7, H⟩ := H
    by_cases c8 : t304 < 0
    ·rw [if_pos c8] at H; have c8b0 := dE c8; clear c8; have H' := aM H; clear H; have p301 : 0 ≤ (x8_1 : Int) := dT aQ; have q301 : x8_1 < (l0.length : Int) := dT aQ; obtain ⟨ad301, e301, hx301_0, hx301_1⟩ := at_impl_Peg HR0.out x8_1 p301 q301
     cases e301
     replace hx301_0 := hC HB hx301_0; replace hx301_1 := hC HB hx301_1; replace p301 := eq_true p301; replace q301 := eq_true q301
     try go_wp2_with (first | ((with_reducible refine gate_dst (N := 5) rfl ?_); refine bV 5 (cs := #[.int .i64 0, .int .i64 0]) (t := 26) rfl rfl (by first | (go_simp; done) | (go_simp; rfl)) ?_; intro gb302 hg w9 hbox hb; have BK302 := hbox; have GW302 := gZ HB hg; have GE302 := gZ HB hg; replace HB := tB HB hb; clear hb hbox hg; have hcz10_0 := vZ0 BK302; have hcz10_1 := vZ1 BK302; have hfz10_0 := kF BK302.out 0; have hfz10_1 := kF BK302.out 1))
     have n0_ : Aside0 (((w9.setCell ⟨gb302, 0, none⟩ (.int .i64 ((rd_impl_Peg l0 x8_1).f0))).setCell ⟨gb302, 1, none⟩ (.int .i64 ((rd_impl_Peg l0 x8_1).f1))).heap[gb302]? = some (.cells #[.int .i64 ((rd_impl_Peg l0 x8_1).f0), .int .i64 ((rd_impl_Peg l0 x8_1).f1)] 26 (0, 0))) := ⟨fQ BK302⟩; have n1_ : Aside0 (Below w.heap.size w ((w9.setCell ⟨gb302, 0, none⟩ (.int .i64 ((rd_impl_Peg l0 x8_1).f0))).setCell ⟨gb302, 1, none⟩ (.int .i64 ((rd_impl_Peg l0 x8_1).f1)))) := ⟨bE⟩; (try clear BK302); (try clear HB)
     generalize ((w9.setCell ⟨gb302, 0, none⟩ (.int .i64 ((rd_impl_Peg l0 x8_1).f0))).setCell ⟨gb302, 1, none⟩ (.int .i64 ((rd_impl_Peg l0 x8_1).f1))) = w11 at n0_ n1_ ⊢
     have BK302 := n0_; have HB := n1_; clear n0_ n1_; replace BK302 := aM (kD BK302.out); replace HB := aM (pD HB.out); have p303 : 0 ≤ (x3_1 : Int) := dT aQ; have q303 : x3_1 < (l0.length : Int) := dT aQ; obtain ⟨ad303, e303, hx303_0, hx303_1⟩ := at_impl_Peg HR0.out x3_1 p303 q303; have hw303_1 := hx303_1; have hw303_0 := hx303_0; obtain rfl : ad301 = ad303 := (by injection e303)
     replace hx303_0 := hC HB hx303_0; replace hx303_1 := hC HB hx303_1; replace p303 := eq_true p303; replace q303 := eq_true q303
     refine start_ (n := 7) (S := fun w' => w'.cell? ⟨gb302, 0, none⟩ = some (.int .i64 ((rd_impl_Peg l0 x8_1).f0)) ∧ w'.cell? ⟨gb302, 1, none⟩ = some (.int .i64 ((rd_impl_Peg l0 x8_1).f1)) ∧ w'.cell? (ad301.add ((x3_1).toNat * 2)) = some (.int .i64 ((rd_impl_Peg l0 x3_1).f0)) ∧ w'.cell? ⟨(ad301.add ((x3_1).toNat * 2)).block, (ad301.add ((x3_1).toNat * 2)).off + 1, none⟩ = some (.int .i64 ((rd_impl_Peg l0 x3_1).f1))) (ds := []) (bA 7 0) kR rfl kR ⟨vZ0 BK302, vZ1 BK302, (hC HB hw303_0 :), (hC HB hw303_1 :)⟩ (fun hHeld => ?_)
     generalize w11.drew = w12 at BK302 HB hx303_0 hx303_1 hHeld ⊢
     refine pure_ (i := 1) (N := some 14) (v := ?_) (a' := ?_) (bA 7 2) rfl rfl kR (fun _ _ _ h => h) (Or.inl ⟨by rfl, ?_⟩) ?_ ?_
     rotate_left
     ·intro w'
      go_simp
      with_reducible rfl
     rotate_left
     ·simp only [Act.put, sI, sZ, sS, i64_w, i32_w]
      rfl
     refine pure_ (i := 2) (N := some 15) (v := ?_) (a' := ?_) (bA 7 6) rfl rfl kR (fun _ _ _ h => h) (Or.inl ⟨by rfl, ?_⟩) ?_ ?_
     rotate_left
     ·intro w'
      go_simp
      with_reducible rfl
     rotate_left
     ·simp only [Act.put, sI, sZ, sS, i64_w, i32_w]
      rfl
     refine pure_ (i := 3) (N := some 16) (v := ?_) (a' := ?_) (bA 7 14) rfl rfl kR (fun _ _ _ h => h) (Or.inl ⟨by rfl, ?_⟩) ?_ ?_
     rotate_left
     ·intro w'
      go_simp
      with_reducible rfl
     rotate_left
     ·simp only [Act.put, sI, sZ, sS, i64_w, i32_w]
      rfl
     refine take_ (i := 0) (N := some 13) (v := ?_) (a' := ?_) (bA 7 15) rfl rfl kR (fun _ _ _ h => h) (Or.inl ⟨by rfl, ?_⟩) hHeld ?_ ?_
     rotate_left
     ·rintro w' ⟨s0, s1, s2, s3⟩
      go_simp
      with_reducible rfl
     rotate_left
     ·simp only [Act.put, sI, sZ, sS, i64_w, i32_w]
      rfl
     refine take_ (i := 4) (N := some 17) (v := ?_) (a' := ?_) (bA 7 31) rfl rfl kR (fun _ _ _ h => h) (Or.inl ⟨by rfl, ?_⟩) hHeld ?_ ?_
     rotate_left
     ·rintro w' ⟨s0, s1, s2, s3⟩
      go_simp
      with_reducible rfl
     rotate_left
     ·simp only [Act.put, sI, sZ, sS, i64_w, i32_w]
      rfl
     refine one_ (i := 5) (N := some 18) (bA 7 63) rfl rfl kR (by decide) (fun K hK => ?_)
     refine goes_ Try.func140 kR rfl #[.agg #[.int .i64 ((rd_impl_Peg l0 x8_1).f0), .int .i64 ((rd_impl_Peg l0 x8_1).f1)], .agg #[.int .i64 ((rd_impl_Peg l0 x3_1).f0), .int .i64 ((rd_impl_Peg l0 x3_1).f1)]] (by rfl) rfl rfl sQ ?_
     with_reducible refine (impl_comparePegs.calls k1 ((rd_impl_Peg l0 x8_1).f0) ((rd_impl_Peg l0 x8_1).f1) ((rd_impl_Peg l0 x3_1).f0) ((rd_impl_Peg l0 x3_1).f1) t304 _ A7.out).mono ?_
     rintro e w13 ⟨rfl, hb⟩; refine ⟨_, rfl, ?_⟩; replace BK302 := bB BK302 hb; replace HB := tB HB hb; (try clear hb); (try clear hb2); (try clear hk); (try clear hi)
     refine hK.out _ _ ⟨vZ0 BK302, vZ1 BK302, (hC HB hw303_0 :), (hC HB hw303_1 :)⟩ (fun hHeld => ?_)
     clear hK K
     refine nU ?_
     refine pure_ (i := 6) (N := some 19) (v := ?_) (a' := ?_) (bA 7 127) rfl rfl kR (fun _ _ _ h => h) (Or.inl ⟨by rfl, ?_⟩) ?_ ?_
     rotate_left
     ·intro w'
      go_simp
      with_reducible rfl
     rotate_left
     ·simp only [Act.put, sI, sZ, sS, i64_w, i32_w]
      rfl
     refine done_ kR ?_
     try go_wp2
     go_roundg k1
     case measure => have := HK1.out; omega
     case rel => exact ⟨(x8_1), (wrap64 (x8_1 + 1)), eQ, eQ, H', ⟨by have := HK1.out; omega⟩, ⟨bE⟩⟩
    ·rw [if_neg c8] at H; have c8b0 := decide_eq_false c8; clear c8; have H' := aM H; clear H; have p301 : 0 ≤ (x8_1 : Int) := dT aQ; have q301 : x8_1 < (l0.length : Int) := dT aQ; obtain ⟨ad301, e301, hx301_0, hx301_1⟩ := at_impl_Peg HR0.out x8_1 p301 q301
     cases e301
     replace hx301_0 := hC HB hx301_0; replace hx301_1 := hC HB hx301_1; replace p301 := eq_true p301; replace q301 := eq_true q301
     try go_wp2_with (first | ((with_reducible refine gate_dst (N := 5) rfl ?_); refine bV 5 (cs := #[.int .i64 0, .int .i64 0]) (t := 26) rfl rfl (by first | (go_simp; done) | (go_simp; rfl)) ?_; intro gb302 hg w14 hbox hb; have BK302 := hbox; have GW302 := gZ HB hg; have GE302 := gZ HB hg; replace HB := tB HB hb; clear hb hbox hg; have hcz15_0 := vZ0 BK302; have hcz15_1 := vZ1 BK302; have hfz15_0 := kF BK302.out 0; have hfz15_1 := kF BK302.out 1))
     have n0_ : Aside0 (((w14.setCell ⟨gb302, 0, none⟩ (.int .i64 ((rd_impl_Peg l0 x8_1).f0))).setCell ⟨gb302, 1, none⟩ (.int .i64 ((rd_impl_Peg l0 x8_1).f1))).heap[gb302]? = some (.cells #[.int .i64 ((rd_impl_Peg l0 x8_1).f0), .int .i64 ((rd_impl_Peg l0 x8_1).f1)] 26 (0, 0))) := ⟨fQ BK302⟩; have n1_ : Aside0 (Below w.heap.size w ((w14.setCell ⟨gb302, 0, none⟩ (.int .i64 ((rd_impl_Peg l0 x8_1).f0))).setCell ⟨gb302, 1, none⟩ (.int .i64 ((rd_impl_Peg l0 x8_1).f1)))) := ⟨bE⟩; (try clear BK302); (try clear HB)
     generalize ((w14.setCell ⟨gb302, 0, none⟩ (.int .i64 ((rd_impl_Peg l0 x8_1).f0))).setCell ⟨gb302, 1, none⟩ (.int .i64 ((rd_impl_Peg l0 x8_1).f1))) = w16 at n0_ n1_ ⊢
     have BK302 := n0_; have HB := n1_; clear n0_ n1_; replace BK302 := aM (kD BK302.out); replace HB := aM (pD HB.out); have p303 : 0 ≤ (x3_1 : Int) := dT aQ; have q303 : x3_1 < (l0.length : Int) := dT aQ; obtain ⟨ad303, e303, hx303_0, hx303_1⟩ := at_impl_Peg HR0.out x3_1 p303 q303; have hw303_1 := hx303_1; have hw303_0 := hx303_0; obtain rfl : ad301 = ad303 := (by injection e303)
     replace hx303_0 := hC HB hx303_0; replace hx303_1 := hC HB hx303_1; replace p303 := eq_true p303; replace q303 := eq_true q303
     refine start_ (n := 7) (S := fun w' => w'.cell? ⟨gb302, 0, none⟩ = some (.int .i64 ((rd_impl_Peg l0 x8_1).f0)) ∧ w'.cell? ⟨gb302, 1, none⟩ = some (.int .i64 ((rd_impl_Peg l0 x8_1).f1)) ∧ w'.cell? (ad301.add ((x3_1).toNat * 2)) = some (.int .i64 ((rd_impl_Peg l0 x3_1).f0)) ∧ w'.cell? ⟨(ad301.add ((x3_1).toNat * 2)).block, (ad301.add ((x3_1).toNat * 2)).off + 1, none⟩ = some (.int .i64 ((rd_impl_Peg l0 x3_1).f1))) (ds := []) (bA 7 0) kR rfl kR ⟨vZ0 BK302, vZ1 BK302, (hC HB hw303_0 :), (hC HB hw303_1 :)⟩ (fun hHeld => ?_)
     generalize w16.drew = w17 at BK302 HB hx303_0 hx303_1 hHeld ⊢
     refine pure_ (i := 1) (N := some 14) (v := ?_) (a' := ?_) (bA 7 2) rfl rfl kR (fun _ _ _ h => h) (Or.inl ⟨by rfl, ?_⟩) ?_ ?_
     rotate_left
     ·intro w'
      go_simp
      with_reducible rfl
     rotate_left
     ·simp only [Act.put, sI, sZ, sS, i64_w, i32_w]
      rfl
     refine pure_ (i := 2) (N := some 15) (v := ?_) (a' := ?_) (bA 7 6) rfl rfl kR (fun _ _ _ h => h) (Or.inl ⟨by rfl, ?_⟩) ?_ ?_
     rotate_left
     ·intro w'
      go_simp
      with_reducible rfl
     rotate_left
     ·simp only [Act.put, sI, sZ, sS, i64_w, i32_w]
      rfl
     refine pure_ (i := 3) (N := some 16) (v := ?_) (a' := ?_) (bA 7 14) rfl rfl kR (fun _ _ _ h => h) (Or.inl ⟨by rfl, ?_⟩) ?_ ?_
     rotate_left
     ·intro w'
      go_simp
      with_reducible rfl
     rotate_left
     ·simp only [Act.put, sI, sZ, sS, i64_w, i32_w]
      rfl
     refine take_ (i := 0) (N := some 13) (v := ?_) (a' := ?_) (bA 7 15) rfl rfl kR (fun _ _ _ h => h) (Or.inl ⟨by rfl, ?_⟩) hHeld ?_ ?_
     rotate_left
     ·rintro w' ⟨s0, s1, s2, s3⟩
      go_simp
      with_reducible rfl
     rotate_left
     ·simp only [Act.put, sI, sZ, sS, i64_w, i32_w]
      rfl
     refine take_ (i := 4) (N := some 17) (v := ?_) (a' := ?_) (bA 7 31) rfl rfl kR (fun _ _ _ h => h) (Or.inl ⟨by rfl, ?_⟩) hHeld ?_ ?_
     rotate_left
     ·rintro w' ⟨s0, s1, s2, s3⟩
      go_simp
      with_reducible rfl
     rotate_left
     ·simp only [Act.put, sI, sZ, sS, i64_w, i32_w]
      rfl
     refine one_ (i := 5) (N := some 18) (bA 7 63) rfl rfl kR (by decide) (fun K hK => ?_)
     refine goes_ Try.func140 kR rfl #[.agg #[.int .i64 ((rd_impl_Peg l0 x8_1).f0), .int .i64 ((rd_impl_Peg l0 x8_1).f1)], .agg #[.int .i64 ((rd_impl_Peg l0 x3_1).f0), .int .i64 ((rd_impl_Peg l0 x3_1).f1)]] (by rfl) rfl rfl sQ ?_
     with_reducible refine (impl_comparePegs.calls k1 ((rd_impl_Peg l0 x8_1).f0) ((rd_impl_Peg l0 x8_1).f1) ((rd_impl_Peg l0 x3_1).f0) ((rd_impl_Peg l0 x3_1).f1) t304 _ A7.out).mono ?_
     rintro e w18 ⟨rfl, hb⟩; refine ⟨_, rfl, ?_⟩; replace BK302 := bB BK302 hb; replace HB := tB HB hb; (try clear hb); (try clear hb2); (try clear hk); (try clear hi)
     refine hK.out _ _ ⟨vZ0 BK302, vZ1 BK302, (hC HB hw303_0 :), (hC HB hw303_1 :)⟩ (fun hHeld => ?_)
     clear hK K
     refine nU ?_
     refine pure_ (i := 6) (N := some 19) (v := ?_) (a' := ?_) (bA 7 127) rfl rfl kR (fun _ _ _ h => h) (Or.inl ⟨by rfl, ?_⟩) ?_ ?_
     rotate_left
     ·intro w'
      go_simp
      with_reducible rfl
     rotate_left
     ·simp only [Act.put, sI, sZ, sS, i64_w, i32_w]
      rfl
     refine done_ kR ?_
     try go_wp2
     go_roundg k1
     case measure => have := HK1.out; omega
     case rel => exact ⟨(x3_1), (wrap64 (x8_1 + 1)), eQ, eQ, H', ⟨by have := HK1.out; omega⟩, ⟨bE⟩⟩
   ·rw [if_neg c2] at H; have c2b0 := decide_eq_false c2; clear c2; obtain rfl := Option.some.inj H; go_wp2
    go_ret
    exact ⟨wQ, bQ⟩

def impl_tellFirst.f (k : Nat) (l0 : List (S_impl_Peg)) : Option ((List (S_impl_Peg))) := (impl_first.f k l0).bind fun t305 => ((impl_twice.f k l0).bind fun t306 => ((impl_sign.f t306).bind fun t307 => ((impl_told.f k l0 t305 t307).bind fun t308 => (some t308))))
theorem impl_tellFirst.mono : ∀ a0 k, LeO (impl_tellFirst.f k a0) (impl_tellFirst.f (k + 1) a0) := by
 intro a0 k
 unfold impl_tellFirst.f
 repeat' first | (with_reducible exact impl_first.mono _ _) | (with_reducible exact impl_told.mono _ _ _ _) | (with_reducible exact impl_twice.mono _ _) | (with_reducible exact LeO.refl _) | (with_reducible exact LeO.none _) | (with_reducible refine LeO.ite ?_ ?_) | (with_reducible refine LeO.bind ?_ (fun _ => ?_)) | exact impl_first.mono _ _ | exact impl_told.mono _ _ _ _ | exact impl_twice.mono _ _ | exact LeO.none _ | refine LeO.ite ?_ ?_ | refine LeO.bind ?_ (fun _ => ?_)
set_option maxHeartbeats 8000000 in
set_option maxRecDepth 100000 in
theorem impl_tellFirst.calls (k : Nat) (A0 : Option Addr) (c0 : Nat) (l0 : List (S_impl_Peg)) (r : List (S_impl_Peg)) (w : World) (hr0 : Kd.C kd_impl_Peg w A0 l0.length l0) (hc0 : l0.length ≤ c0) (h : impl_tellFirst.f k l0 = some r) :
  Calls Try.prog 78 #[.slice A0 l0.length c0] w fun e w' => ∃ v0_ : Value, e = .returned (v0_) ∧ Kd.R kd_impl_Peg 26 w' w.heap.size (fun _ => True) v0_ r ∧ Below w.heap.size w w' := by
 have HR0 := aM hr0; have HC0 := aM hc0; clear hr0 hc0; have HB := aM (Below.refl w.heap.size w)
 unfold impl_tellFirst.f at h; have H := h; clear h
 replace H := bS H; obtain ⟨t305, A2, H⟩ := H; replace H := bS H; obtain ⟨t306, A3, H⟩ := H; replace H := bS H; obtain ⟨t307, A4, H⟩ := H; replace H := bS H; obtain ⟨t308, A5, H⟩ := H; obtain rfl := Option.some.inj H
 go_enter Try.func78, Try.ntmps78
 go_wp2_with (first | ((with_reducible refine gC (f := 123) rfl ?_); refine goesL_ (some 5) rfl rfl Try.func123 kR rfl #[.slice A0 l0.length c0] rfl sQ ?_; (with_reducible refine (impl_first.calls k _ _ l0 t305 _ ?side1 ?side2 A2.out).mono ?_); (case side1 => repeat (first | exact HR0.out | (with_reducible refine cA ?_ _) | (with_reducible refine cN ?_ _) | (with_reducible refine cD ?_))); (case side2 => exact HC0.out); rintro e w6 ⟨rfl, hb⟩; refine ⟨_, rfl, ?_⟩; replace HB := tB HB hb; (try clear hb); (try clear hb2); (try clear hk); (try clear hi)) | ((with_reducible refine gC (f := 61) rfl ?_); refine goesL_ (some 7) rfl rfl Try.func61 kR rfl #[.slice A0 l0.length c0] rfl sQ ?_; (with_reducible refine (impl_twice.calls k _ _ l0 t306 _ ?side1 ?side2 A3.out).mono ?_); (case side1 => repeat (first | exact (Kd.C_below HR0.out HB.out) | (with_reducible refine cA ?_ _) | (with_reducible refine cN ?_ _) | (with_reducible refine cD ?_))); (case side2 => exact HC0.out); rintro e w7 ⟨rfl, hb⟩; refine ⟨_, rfl, ?_⟩; replace HB := tB HB hb; (try clear hb); (try clear hb2); (try clear hk); (try clear hi)) | ((with_reducible refine gC (f := 125) rfl ?_); refine goesL_ (some 8) rfl rfl Try.func125 kR rfl #[.int .i64 t306] rfl sQ ?_; (with_reducible refine (impl_sign.calls t306 t307 _ A4.out).mono ?_); rintro e w8 ⟨rfl, hb⟩; refine ⟨_, rfl, ?_⟩; replace HB := tB HB hb; (try clear hb); (try clear hb2); (try clear hk); (try clear hi)) | ((with_reducible refine gC (f := 66) rfl ?_); refine goesL_ (some 9) rfl rfl Try.func66 kR rfl #[.slice A0 l0.length c0, .int .i64 t305, .int .i64 t307] rfl sQ ?_; (with_reducible refine (impl_told.calls k _ _ l0 t305 t307 t308 _ ?side1 ?side2 A5.out).mono ?_); (case side1 => repeat (first | exact (Kd.C_below HR0.out HB.out) | (with_reducible refine cA ?_ _) | (with_reducible refine cN ?_ _) | (with_reducible refine cD ?_))); (case side2 => exact HC0.out); rintro e w9 ⟨v309, rfl, ho0, hb⟩; refine ⟨_, rfl, ?_⟩; have HO310 := aM (Kd.R_lower ho0 (pZ bQ)); replace HB := tB HB hb; (try clear hb); (try clear hb2); (try clear hk); (try clear hi); (try clear ho0)))
 go_ret
 exact ⟨_, by first | rfl | (simp [errW_none, errW_some] <;> rfl) | (simp [*, errW_none, errW_some] <;> rfl), by (with_reducible repeat (first | apply rA | apply rN | apply rD)); exact HO310.out, bQ⟩

def impl_TellFirst.f (k : Nat) (l0 : List (S_impl_Peg)) : Option ((List (S_impl_Peg)) × Bool) := (impl_IsPolygon.f k l0).bind fun t311 => (if t311 = true then ((impl_tellFirst.f k l0).bind fun t312 => (some (t312, true))) else (some (([] : List (S_impl_Peg)), false)))
theorem impl_TellFirst.mono : ∀ a0 k, LeO (impl_TellFirst.f k a0) (impl_TellFirst.f (k + 1) a0) := by
 intro a0 k
 unfold impl_TellFirst.f
 repeat' first | (with_reducible exact impl_IsPolygon.mono _ _) | (with_reducible exact impl_tellFirst.mono _ _) | (with_reducible exact LeO.refl _) | (with_reducible exact LeO.none _) | (with_reducible refine LeO.ite ?_ ?_) | (with_reducible refine LeO.bind ?_ (fun _ => ?_)) | exact impl_IsPolygon.mono _ _ | exact impl_tellFirst.mono _ _ | exact LeO.none _ | refine LeO.ite ?_ ?_ | refine LeO.bind ?_ (fun _ => ?_)
set_option maxHeartbeats 8000000 in
set_option maxRecDepth 100000 in
theorem impl_TellFirst.calls (k : Nat) (A0 : Option Addr) (c0 : Nat) (l0 : List (S_impl_Peg)) (r1 : List (S_impl_Peg)) (r2 : Bool) (w : World) (hr0 : Kd.C kd_impl_Peg w A0 l0.length l0) (hc0 : l0.length ≤ c0) (h : impl_TellFirst.f k l0 = some (r1, r2)) :
  Calls Try.prog 33 #[.slice A0 l0.length c0] w fun e w' => ∃ v0_ : Value, e = .returned (.tuple #[v0_, .bool r2]) ∧ Kd.R kd_impl_Peg 26 w' w.heap.size (fun _ => True) v0_ r1 ∧ Below w.heap.size w w' := by
 have HR0 := aM hr0; have HC0 := aM hc0; clear hr0 hc0; have HB := aM (Below.refl w.heap.size w)
 unfold impl_TellFirst.f at h; have H := h; clear h
 replace H := bS H; obtain ⟨t311, A2, H⟩ := H
 by_cases c3 : t311 = true
 ·subst c3; replace H := iT H; replace H := bS H; obtain ⟨t312, A4, H⟩ := H
  simp only [Option.some.injEq, Prod.mk.injEq] at H
  obtain ⟨rfl, rfl⟩ := H
  go_enter Try.func33, Try.ntmps33
  go_wp2_with (first | ((with_reducible refine gC (f := 65) rfl ?_); refine goesL_ (some 5) rfl rfl Try.func65 kR rfl #[.slice A0 l0.length c0] rfl sQ ?_; (with_reducible refine (impl_IsPolygon.calls k _ _ l0 true _ ?side1 ?side2 A2.out).mono ?_); (case side1 => repeat (first | exact HR0.out | (with_reducible refine cA ?_ _) | (with_reducible refine cN ?_ _) | (with_reducible refine cD ?_))); (case side2 => exact HC0.out); rintro e w5 ⟨rfl, hb⟩; refine ⟨_, rfl, ?_⟩; replace HB := tB HB hb; (try clear hb); (try clear hb2); (try clear hk); (try clear hi)) | ((with_reducible refine gC (f := 78) rfl ?_); refine goesL_ (some 8) rfl rfl Try.func78 kR rfl #[.slice A0 l0.length c0] rfl sQ ?_; (with_reducible refine (impl_tellFirst.calls k _ _ l0 t312 _ ?side1 ?side2 A4.out).mono ?_); (case side1 => repeat (first | exact (Kd.C_below HR0.out HB.out) | (with_reducible refine cA ?_ _) | (with_reducible refine cN ?_ _) | (with_reducible refine cD ?_))); (case side2 => exact HC0.out); rintro e w6 ⟨v313, rfl, ho0, hb⟩; refine ⟨_, rfl, ?_⟩; have HO314 := aM (Kd.R_lower ho0 (pZ bQ)); replace HB := tB HB hb; (try clear hb); (try clear hb2); (try clear hk); (try clear hi); (try clear ho0)))
  go_ret2
  exact ⟨_, by first | rfl | (simp [errW_none, errW_some] <;> rfl) | (simp [*, errW_none, errW_some] <;> rfl), by (with_reducible repeat (first | apply rA | apply rN | apply rD)); exact HO314.out, bQ⟩
 ·replace c3 := Bool.eq_false_iff.mpr c3; subst c3; replace H := iF H
  simp only [Option.some.injEq, Prod.mk.injEq] at H
  obtain ⟨rfl, rfl⟩ := H
  go_enter Try.func33, Try.ntmps33
  go_wp2_with (first | ((with_reducible refine gC (f := 65) rfl ?_); refine goesL_ (some 5) rfl rfl Try.func65 kR rfl #[.slice A0 l0.length c0] rfl sQ ?_; (with_reducible refine (impl_IsPolygon.calls k _ _ l0 false _ ?side1 ?side2 A2.out).mono ?_); (case side1 => repeat (first | exact HR0.out | (with_reducible refine cA ?_ _) | (with_reducible refine cN ?_ _) | (with_reducible refine cD ?_))); (case side2 => exact HC0.out); rintro e w7 ⟨rfl, hb⟩; refine ⟨_, rfl, ?_⟩; replace HB := tB HB hb; (try clear hb); (try clear hb2); (try clear hk); (try clear hi)))
  go_ret2
  exact ⟨_, by first | rfl | (simp [errW_none, errW_some] <;> rfl) | (simp [*, errW_none, errW_some] <;> rfl), by first | exact Kd.R_nil _ _ _ _ _ | exact Kd.N_nil _ _ _ _ _ | exact Kd.V_nil _ _ _ _ _ | exact Kd.Q_nil _ _ _ _ _ | exact Kd.S_nil _ _ _ _ _, bQ⟩

end Go.Proofs.Ytklhakfmegbobaa.X
