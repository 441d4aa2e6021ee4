-- thin
-- short
-- compact
import Derived.Test.YtklhakfmegbobaaXA
import Derived.Test.YtklhakfmegbobaaX0
import Derived.Test.YtklhakfmegbobaaX12
import Derived.Test.YtklhakfmegbobaaX13
import Derived.Test.YtklhakfmegbobaaX15
import Derived.Test.YtklhakfmegbobaaX18
import Derived.Test.YtklhakfmegbobaaX19
import Derived.Test.YtklhakfmegbobaaX20
namespace Go.Proofs.Ytklhakfmegbobaa.X
open Go.RowKit Go.Proofs.Ytklhakfmegbobaa.XW Go.Proofs.YtklhakfmegbobaaW.PrintWords Go.Proofs.YtklhakfmegbobaaW.PrintLast Go.Proofs.YtklhakfmegbobaaW.PrintMore
attribute [local go_sem] max2_int min2_int max_two min_two max_three min_three max_four min_four   -- for this text's walks alone
set_option linter.unusedVariables false
set_option linter.unusedSimpArgs false

def impl_around.l0 : Nat → List (S_impl_Peg) → Int → List (S_impl_Peg) → Int → Int → Option (Int)
 | 0, _, _, _, _, _ => none
 | k + 1, x0, x3, x6, x7, x8 => if x8 < x7 then (if 0 ≤ x8 then (if x8 < (x6.length : Int) then ((impl_at.f x0 (wrap64 (x8 + 1))).bind fun bt400 => ((impl_steps.f k ((rd_impl_Peg x6 x8).f0) ((rd_impl_Peg x6 x8).f1) bt400.1 bt400.2).bind fun t402 => (impl_around.l0 k x0 (wrap64 (x3 + t402)) x6 x7 (wrap64 (x8 + 1))))) else (none)) else (none)) else (some x3)
def impl_around.f (k : Nat) (l0 : List (S_impl_Peg)) : Option (Int) := impl_around.l0 k l0 0 l0 (l0.length : Int) 0
theorem impl_around.mono_l : ∀ k, (∀ y0 y1 y2 y3 y4, LeO (impl_around.l0 k y0 y1 y2 y3 y4) (impl_around.l0 (k + 1) y0 y1 y2 y3 y4))
 | 0 => fun _ _ _ _ _ r h => by simp [impl_around.l0] at h
 | k + 1 => by
  have ih0 := impl_around.mono_l k
  ·intro y0 y1 y2 y3 y4
   unfold impl_around.l0
   repeat' first
   | (with_reducible exact ih0 _ _ _ _ _)
   | (with_reducible exact impl_steps.mono _ _ _ _ _)
   | (with_reducible exact LeO.refl _)
   | (with_reducible exact LeO.none _)
   | (with_reducible refine LeO.ite ?_ ?_)
   | (with_reducible refine LeO.bind ?_ (fun _ => ?_))
   | exact ih0 _ _ _ _ _
   | exact impl_steps.mono _ _ _ _ _
   | exact LeO.none _
   | refine LeO.ite ?_ ?_
   | refine LeO.bind ?_ (fun _ => ?_)
theorem impl_around.mono : ∀ a0 k, LeO (impl_around.f k a0) (impl_around.f (k + 1) a0) := by
 intro a0 k
 have ih0 := impl_around.mono_l k
 unfold impl_around.f
 repeat' first | (with_reducible exact ih0 _ _ _ _ _) | (with_reducible exact impl_steps.mono _ _ _ _ _) | (with_reducible exact LeO.refl _) | (with_reducible exact LeO.none _) | (with_reducible refine LeO.ite ?_ ?_) | (with_reducible refine LeO.bind ?_ (fun _ => ?_)) | exact ih0 _ _ _ _ _ | exact impl_steps.mono _ _ _ _ _ | exact LeO.none _ | refine LeO.ite ?_ ?_ | refine LeO.bind ?_ (fun _ => ?_)
def impl_around.T5 : Bool × List (List Nat × List Nat) := (true, [([], []), ([], []), ([], []), ([], []), ([3], [3]), ([2, 4], [2, 4]), ([1, 5, 5], [1, 5]), ([0, 6], [0, 6]), ([7, 6, 0, 1, 2, 3, 4, 5, 6, 7], [0, 7])])
def impl_around.B5 : List Nat := [0, 0, 0, 0, 8, 28, 62, 127, 255]
theorem impl_around.tab5 : rtab .any (opsOf Try.f105 5) = impl_around.T5 := by kernel_rfl
theorem impl_around.bits5 : waitsOk impl_around.T5.2 impl_around.B5 = true := by kernel_rfl
set_option maxHeartbeats 8000000 in
set_option maxRecDepth 100000 in
theorem impl_around.calls (k : Nat) (A0 : Option Addr) (c0 : Nat) (l0 : List (S_impl_Peg)) (r : Int) (w : World) (hr0 : Kd.C kd_impl_Peg w A0 l0.length l0) (hc0 : l0.length ≤ c0) (h : impl_around.f k l0 = some r) :
  Calls Try.prog 105 #[.slice A0 l0.length c0] w fun e w' => e = .returned (.int .i64 r) ∧ Below w.heap.size w w' := by
 have hu26 := Try.underlying26; have HR0 := aM hr0; have HC0 := aM hc0; clear hr0 hc0; have HB := aM (Below.refl w.heap.size w)
 unfold impl_around.f at h; have H := h; clear h
 have H' := aM H; clear H
 go_enter Try.func105, Try.ntmps105
 go_wp2
 go_loopg [3, 8] k (fun kq v3 v8 w' => ∃ (x3_1 : Int) (x8_1 : Int), v3 = .int .i64 x3_1 ∧ v8 = .int .i64 x8_1 ∧ Aside0 (impl_around.l0 kq l0 x3_1 l0 (l0.length : Int) x8_1 = some r) ∧ Aside0 (kq ≤ k) ∧ Aside0 (Below w.heap.size w w'))
 case atStart => exact ⟨(0), (0), eQ, eQ, H', ⟨Nat.le_refl _⟩, ⟨bQ⟩⟩
 case round =>
  clear H'; obtain ⟨x3_1, x8_1, rfl, rfl, HA, HK1, HB⟩ := hrel
  cases gk with
  | zero => exact absurd HA.out (by simp [impl_around.l0])
  | succ k1 =>
   have H := HA.out; clear HA
   simp only [impl_around.l0] at H
   by_cases c2 : x8_1 < (l0.length : Int)
   ·rw [if_pos c2] at H; have c2b0 := dE c2; clear c2; replace H := iD H; obtain ⟨c3b0, H⟩ := H; replace H := iD H; obtain ⟨c4b0, H⟩ := H; replace H := bS H; obtain ⟨⟨t400, t401⟩, A5, H⟩ := H; replace H := bS H; obtain ⟨t402, A6, H⟩ := H; have H' := aM H; clear H; have p398 : 0 ≤ (x8_1 : Int) := dT aQ; have q398 : x8_1 < (l0.length : Int) := dT aQ; obtain ⟨ad398, e398, hx398_0, hx398_1⟩ := at_impl_Peg HR0.out x8_1 p398 q398
    cases e398
    replace hx398_0 := hC HB hx398_0; replace hx398_1 := hC HB hx398_1; replace p398 := eq_true p398; replace q398 := eq_true q398
    try go_wp2_with (first | ((with_reducible refine gate_dst (N := 5) rfl ?_); refine bV 5 (cs := #[.int .i64 0, .int .i64 0]) (t := 26) rfl rfl (by first | (go_simp; done) | (go_simp; rfl)) ?_; intro gb399 hg w7 hbox hb; have BK399 := hbox; have GW399 := gZ HB hg; have GE399 := gZ HB hg; replace HB := tB HB hb; clear hb hbox hg; have hcz8_0 := vZ0 BK399; have hcz8_1 := vZ1 BK399; have hfz8_0 := kF BK399.out 0; have hfz8_1 := kF BK399.out 1))
    have n0_ : Aside0 (((w7.setCell ⟨gb399, 0, none⟩ (.int .i64 ((rd_impl_Peg l0 x8_1).f0))).setCell ⟨gb399, 1, none⟩ (.int .i64 ((rd_impl_Peg l0 x8_1).f1))).heap[gb399]? = some (.cells #[.int .i64 ((rd_impl_Peg l0 x8_1).f0), .int .i64 ((rd_impl_Peg l0 x8_1).f1)] 26 (0, 0))) := ⟨fQ BK399⟩; have n1_ : Aside0 (Below w.heap.size w ((w7.setCell ⟨gb399, 0, none⟩ (.int .i64 ((rd_impl_Peg l0 x8_1).f0))).setCell ⟨gb399, 1, none⟩ (.int .i64 ((rd_impl_Peg l0 x8_1).f1)))) := ⟨bE⟩; (try clear BK399); (try clear HB)
    generalize ((w7.setCell ⟨gb399, 0, none⟩ (.int .i64 ((rd_impl_Peg l0 x8_1).f0))).setCell ⟨gb399, 1, none⟩ (.int .i64 ((rd_impl_Peg l0 x8_1).f1))) = w9 at n0_ n1_ ⊢
    have BK399 := n0_; have HB := n1_; clear n0_ n1_; replace BK399 := aM (kD BK399.out); replace HB := aM (pD HB.out)
    refine start_ (n := 9) (S := fun w' => w'.cell? ⟨gb399, 0, none⟩ = some (.int .i64 ((rd_impl_Peg l0 x8_1).f0)) ∧ w'.cell? ⟨gb399, 1, none⟩ = some (.int .i64 ((rd_impl_Peg l0 x8_1).f1))) (ds := []) (bA 9 0) kR rfl kR ⟨vZ0 BK399, vZ1 BK399⟩ (fun hHeld => ?_); refine with_tabW impl_around.tab5 impl_around.bits5 (fun HT_ HW_ => ?_)
    generalize w9.drew = w10 at BK399 HB hHeld ⊢
    refine pU 0 13 (bA 9 1) HT_ ?_; refine pU 2 15 (bA 9 5) HT_ ?_; refine pU 3 16 (bA 9 13) HT_ ?_; refine pU 4 17 (bA 9 29) HT_ ?_
    refine tU 1 14 (bA 9 31) HT_ HW_ hHeld ?_ (hy := Or.inl ⟨by rfl, by rintro w' ⟨s0, s1⟩; go_simp; with_reducible rfl⟩)
    refine oU 5 18 (bA 9 63) HT_ (fun K hK => ?_)
    refine goes_ Try.func108 kR rfl #[.slice (some ad398) l0.length c0, .int .i64 (wrap64 (x8_1 + 1))] (by rfl) rfl rfl sQ ?_
    with_reducible refine (impl_at.calls _ _ l0 (wrap64 (x8_1 + 1)) t400 t401 _ ?side1 ?side2 A5.out).mono ?_
    (case side1 => repeat (first | exact (Kd.C_below HR0.out HB.out) | (with_reducible refine cA ?_ _) | (with_reducible refine cN ?_ _) | (with_reducible refine cD ?_)))
    (case side2 => exact HC0.out)
    rintro e w11 ⟨rfl, hb⟩; refine ⟨_, rfl, ?_⟩; replace BK399 := bB BK399 hb; replace HB := tB HB hb; (try clear hb); (try clear hb2); (try clear hk); (try clear hi)
    refine hK.out _ _ ⟨vZ0 BK399, vZ1 BK399⟩ (fun hHeld => ?_)
    clear hK K
    refine nU ?_
    refine oU 6 19 (bA 9 127) HT_ (fun K hK => ?_)
    refine goes_ Try.func135 kR rfl #[.agg #[.int .i64 ((rd_impl_Peg l0 x8_1).f0), .int .i64 ((rd_impl_Peg l0 x8_1).f1)], .agg #[.int .i64 t400, .int .i64 t401]] (by rfl) rfl rfl sQ ?_
    with_reducible refine (impl_steps.calls k1 ((rd_impl_Peg l0 x8_1).f0) ((rd_impl_Peg l0 x8_1).f1) t400 t401 t402 _ A6.out).mono ?_
    rintro e w12 ⟨rfl, hb⟩; refine ⟨_, rfl, ?_⟩; replace BK399 := bB BK399 hb; replace HB := tB HB hb; (try clear hb); (try clear hb2); (try clear hk); (try clear hi)
    refine hK.out _ _ ⟨vZ0 BK399, vZ1 BK399⟩ (fun hHeld => ?_)
    clear hK K
    refine nU ?_
    refine pU 7 20 (bA 9 255) HT_ ?_; refine pU 8 3 (bA 9 511) HT_ ?_
    refine done_ (done_of HT_.out kR) ?_
    try go_wp2
    go_roundg k1
    case measure => have := HK1.out; omega
    case rel => exact ⟨(wrap64 (x3_1 + t402)), (wrap64 (x8_1 + 1)), eQ, eQ, H', ⟨by have := HK1.out; omega⟩, ⟨bE⟩⟩
   ·rw [if_neg c2] at H; have c2b0 := decide_eq_false c2; clear c2; obtain rfl := Option.some.inj H; go_wp2
    go_ret
    exact ⟨wQ, bQ⟩

def impl_inner.f (k : Nat) (l0 : List (S_impl_Peg)) : Option (Int) := (impl_twice.f k l0).bind fun t403 => ((impl_size.f t403).bind fun t404 => ((impl_around.f k l0).bind fun t405 => (some (wrap64 (Int.tdiv (wrap64 ((wrap64 (t404 + 2)) - t405)) 2)))))
theorem impl_inner.mono : ∀ a0 k, LeO (impl_inner.f k a0) (impl_inner.f (k + 1) a0) := by
 intro a0 k
 unfold impl_inner.f
 repeat' first | (with_reducible exact impl_around.mono _ _) | (with_reducible exact impl_twice.mono _ _) | (with_reducible exact LeO.refl _) | (with_reducible exact LeO.none _) | (with_reducible refine LeO.ite ?_ ?_) | (with_reducible refine LeO.bind ?_ (fun _ => ?_)) | exact impl_around.mono _ _ | exact impl_twice.mono _ _ | exact LeO.none _ | refine LeO.ite ?_ ?_ | refine LeO.bind ?_ (fun _ => ?_)
set_option maxHeartbeats 8000000 in
set_option maxRecDepth 100000 in
theorem impl_inner.calls (k : Nat) (A0 : Option Addr) (c0 : Nat) (l0 : List (S_impl_Peg)) (r : Int) (w : World) (hr0 : Kd.C kd_impl_Peg w A0 l0.length l0) (hc0 : l0.length ≤ c0) (h : impl_inner.f k l0 = some r) :
  Calls Try.prog 116 #[.slice A0 l0.length c0] w fun e w' => e = .returned (.int .i64 r) ∧ Below w.heap.size w w' := by
 have HR0 := aM hr0; have HC0 := aM hc0; clear hr0 hc0; have HB := aM (Below.refl w.heap.size w)
 unfold impl_inner.f at h; have H := h; clear h
 replace H := bS H; obtain ⟨t403, A2, H⟩ := H; replace H := bS H; obtain ⟨t404, A3, H⟩ := H; replace H := bS H; obtain ⟨t405, A4, H⟩ := H; obtain rfl := Option.some.inj H
 go_enter Try.func116, Try.ntmps116
 go_wp2_with (first | ((with_reducible refine gC (f := 61) rfl ?_); refine goesL_ (some 4) rfl rfl Try.func61 kR rfl #[.slice A0 l0.length c0] rfl sQ ?_; (with_reducible refine (impl_twice.calls k _ _ l0 t403 _ ?side1 ?side2 A2.out).mono ?_); (case side1 => repeat (first | exact HR0.out | (with_reducible refine cA ?_ _) | (with_reducible refine cN ?_ _) | (with_reducible refine cD ?_))); (case side2 => exact HC0.out); rintro e w5 ⟨rfl, hb⟩; refine ⟨_, rfl, ?_⟩; replace HB := tB HB hb; (try clear hb); (try clear hb2); (try clear hk); (try clear hi)) | ((with_reducible refine gC (f := 126) rfl ?_); refine goesL_ (some 5) rfl rfl Try.func126 kR rfl #[.int .i64 t403] rfl sQ ?_; (with_reducible refine (impl_size.calls t403 t404 _ A3.out).mono ?_); rintro e w6 ⟨rfl, hb⟩; refine ⟨_, rfl, ?_⟩; replace HB := tB HB hb; (try clear hb); (try clear hb2); (try clear hk); (try clear hi)) | ((with_reducible refine gC (f := 105) rfl ?_); refine goesL_ (some 8) rfl rfl Try.func105 kR rfl #[.slice A0 l0.length c0] rfl sQ ?_; (with_reducible refine (impl_around.calls k _ _ l0 t405 _ ?side1 ?side2 A4.out).mono ?_); (case side1 => repeat (first | exact (Kd.C_below HR0.out HB.out) | (with_reducible refine cA ?_ _) | (with_reducible refine cN ?_ _) | (with_reducible refine cD ?_))); (case side2 => exact HC0.out); rintro e w7 ⟨rfl, hb⟩; refine ⟨_, rfl, ?_⟩; replace HB := tB HB hb; (try clear hb); (try clear hb2); (try clear hk); (try clear hi)))
 go_ret
 exact ⟨wQ, bQ⟩

def impl_isOneInside.f (k : Nat) (l0 : List (S_impl_Peg)) : Option (Bool) := (impl_isConvex.f k l0).bind fun t406 => (if t406 = true then ((impl_inner.f k l0).bind fun t407 => (if t407 = 1 then ((impl_where.f k l0 0 0).bind fun t408 => (some (decide (t408 > 0)))) else (some false))) else (some false))
theorem impl_isOneInside.mono : ∀ a0 k, LeO (impl_isOneInside.f k a0) (impl_isOneInside.f (k + 1) a0) := by
 intro a0 k
 unfold impl_isOneInside.f
 repeat' first | (with_reducible exact impl_inner.mono _ _) | (with_reducible exact impl_isConvex.mono _ _) | (with_reducible exact impl_where.mono _ _ _ _) | (with_reducible exact LeO.refl _) | (with_reducible exact LeO.none _) | (with_reducible refine LeO.ite ?_ ?_) | (with_reducible refine LeO.bind ?_ (fun _ => ?_)) | exact impl_inner.mono _ _ | exact impl_isConvex.mono _ _ | exact impl_where.mono _ _ _ _ | exact LeO.none _ | refine LeO.ite ?_ ?_ | refine LeO.bind ?_ (fun _ => ?_)
set_option maxHeartbeats 8000000 in
set_option maxRecDepth 100000 in
theorem impl_isOneInside.calls (k : Nat) (A0 : Option Addr) (c0 : Nat) (l0 : List (S_impl_Peg)) (r : Bool) (w : World) (hr0 : Kd.C kd_impl_Peg w A0 l0.length l0) (hc0 : l0.length ≤ c0) (h : impl_isOneInside.f k l0 = some r) :
  Calls Try.prog 68 #[.slice A0 l0.length c0] w fun e w' => e = .returned (.bool r) ∧ Below w.heap.size w w' := by
 have hu26 := Try.underlying26; have HR0 := aM hr0; have HC0 := aM hc0; clear hr0 hc0; have HB := aM (Below.refl w.heap.size w)
 unfold impl_isOneInside.f at h; have H := h; clear h
 replace H := bS H; obtain ⟨t406, A2, H⟩ := H
 by_cases c3 : t406 = true
 ·subst c3; replace H := iT H; replace H := bS H; obtain ⟨t407, A4, H⟩ := H
  by_cases c5 : t407 = 1
  ·rw [if_pos c5] at H; have c5b0 : (t407 == 1) = true := beq_iff_eq.mpr c5; have c5b1 : (t407 != 1) = false := bne_eq_false_iff_eq.mpr c5; clear c5; replace H := bS H; obtain ⟨t408, A6, H⟩ := H; obtain rfl := Option.some.inj H
   go_enter Try.func68, Try.ntmps68
   go_wp2_with (first | ((with_reducible refine gC (f := 115) rfl ?_); refine goesL_ (some 4) rfl rfl Try.func115 kR rfl #[.slice A0 l0.length c0] rfl sQ ?_; (with_reducible refine (impl_isConvex.calls k _ _ l0 true _ ?side1 ?side2 A2.out).mono ?_); (case side1 => repeat (first | exact HR0.out | (with_reducible refine cA ?_ _) | (with_reducible refine cN ?_ _) | (with_reducible refine cD ?_))); (case side2 => exact HC0.out); rintro e w7 ⟨rfl, hb⟩; refine ⟨_, rfl, ?_⟩; replace HB := tB HB hb; (try clear hb); (try clear hb2); (try clear hk); (try clear hi)) | (go_at_call 116; (with_reducible refine (impl_inner.calls k _ _ l0 t407 _ ?side1 ?side2 A4.out).mono ?_); (case side1 => repeat (first | exact (Kd.C_below HR0.out HB.out) | (with_reducible refine cA ?_ _) | (with_reducible refine cN ?_ _) | (with_reducible refine cD ?_))); (case side2 => exact HC0.out); rintro e w8 ⟨rfl, hb⟩; replace HB := tB HB hb; (try clear hb); (try clear hb2); (try clear hk); (try clear hi)) | (go_at_call 94; (with_reducible refine (impl_where.calls k _ _ l0 0 0 t408 _ ?side1 ?side2 A6.out).mono ?_); (case side1 => repeat (first | exact (Kd.C_below HR0.out HB.out) | (with_reducible refine cA ?_ _) | (with_reducible refine cN ?_ _) | (with_reducible refine cD ?_))); (case side2 => exact HC0.out); rintro e w9 ⟨rfl, hb⟩; replace HB := tB HB hb; (try clear hb); (try clear hb2); (try clear hk); (try clear hi)))
   go_ret
   exact ⟨wQ, bQ⟩
  ·rw [if_neg c5] at H; have c5b0 : (t407 == 1) = false := beq_eq_false_iff_ne.mpr c5; have c5b1 : (t407 != 1) = true := bne_iff_ne.mpr c5; obtain rfl := Option.some.inj H
   go_enter Try.func68, Try.ntmps68
   go_wp2_with (first | ((with_reducible refine gC (f := 115) rfl ?_); refine goesL_ (some 4) rfl rfl Try.func115 kR rfl #[.slice A0 l0.length c0] rfl sQ ?_; (with_reducible refine (impl_isConvex.calls k _ _ l0 true _ ?side1 ?side2 A2.out).mono ?_); (case side1 => repeat (first | exact HR0.out | (with_reducible refine cA ?_ _) | (with_reducible refine cN ?_ _) | (with_reducible refine cD ?_))); (case side2 => exact HC0.out); rintro e w10 ⟨rfl, hb⟩; refine ⟨_, rfl, ?_⟩; replace HB := tB HB hb; (try clear hb); (try clear hb2); (try clear hk); (try clear hi)) | (go_at_call 116; (with_reducible refine (impl_inner.calls k _ _ l0 t407 _ ?side1 ?side2 A4.out).mono ?_); (case side1 => repeat (first | exact (Kd.C_below HR0.out HB.out) | (with_reducible refine cA ?_ _) | (with_reducible refine cN ?_ _) | (with_reducible refine cD ?_))); (case side2 => exact HC0.out); rintro e w11 ⟨rfl, hb⟩; replace HB := tB HB hb; (try clear hb); (try clear hb2); (try clear hk); (try clear hi)))
   go_ret
   exact ⟨wQ, bQ⟩
 ·replace c3 := Bool.eq_false_iff.mpr c3; subst c3; replace H := iF H; obtain rfl := Option.some.inj H
  go_enter Try.func68, Try.ntmps68
  go_wp2_with (first | ((with_reducible refine gC (f := 115) rfl ?_); refine goesL_ (some 4) rfl rfl Try.func115 kR rfl #[.slice A0 l0.length c0] rfl sQ ?_; (with_reducible refine (impl_isConvex.calls k _ _ l0 false _ ?side1 ?side2 A2.out).mono ?_); (case side1 => repeat (first | exact HR0.out | (with_reducible refine cA ?_ _) | (with_reducible refine cN ?_ _) | (with_reducible refine cD ?_))); (case side2 => exact HC0.out); rintro e w12 ⟨rfl, hb⟩; refine ⟨_, rfl, ?_⟩; replace HB := tB HB hb; (try clear hb); (try clear hb2); (try clear hk); (try clear hi)))
  go_ret
  exact ⟨wQ, bQ⟩

def impl_isDualist.f (k : Nat) (l0 : List (S_impl_Peg)) : Option (Bool) := (impl_IsPolygon.f k l0).bind fun t409 => (if t409 = true then ((impl_isOneInside.f k l0).bind fun t410 => (some t410)) else (some false))
theorem impl_isDualist.mono : ∀ a0 k, LeO (impl_isDualist.f k a0) (impl_isDualist.f (k + 1) a0) := by
 intro a0 k
 unfold impl_isDualist.f
 repeat' first | (with_reducible exact impl_IsPolygon.mono _ _) | (with_reducible exact impl_isOneInside.mono _ _) | (with_reducible exact LeO.refl _) | (with_reducible exact LeO.none _) | (with_reducible refine LeO.ite ?_ ?_) | (with_reducible refine LeO.bind ?_ (fun _ => ?_)) | exact impl_IsPolygon.mono _ _ | exact impl_isOneInside.mono _ _ | exact LeO.none _ | refine LeO.ite ?_ ?_ | refine LeO.bind ?_ (fun _ => ?_)
set_option maxHeartbeats 8000000 in
set_option maxRecDepth 100000 in
theorem impl_isDualist.calls (k : Nat) (A0 : Option Addr) (c0 : Nat) (l0 : List (S_impl_Peg)) (r : Bool) (w : World) (hr0 : Kd.C kd_impl_Peg w A0 l0.length l0) (hc0 : l0.length ≤ c0) (h : impl_isDualist.f k l0 = some r) :
  Calls Try.prog 104 #[.slice A0 l0.length c0] w fun e w' => e = .returned (.bool r) ∧ Below w.heap.size w w' := by
 have HR0 := aM hr0; have HC0 := aM hc0; clear hr0 hc0; have HB := aM (Below.refl w.heap.size w)
 unfold impl_isDualist.f at h; have H := h; clear h
 replace H := bS H; obtain ⟨t409, A2, H⟩ := H
 by_cases c3 : t409 = true
 ·subst c3; replace H := iT H; replace H := bS H; obtain ⟨t410, A4, H⟩ := H; obtain rfl := Option.some.inj H
  go_enter Try.func104, Try.ntmps104
  go_wp2_with (first | ((with_reducible refine gC (f := 65) rfl ?_); refine goesL_ (some 4) rfl rfl Try.func65 kR rfl #[.slice A0 l0.length c0] rfl sQ ?_; (with_reducible refine (impl_IsPolygon.calls k _ _ l0 true _ ?side1 ?side2 A2.out).mono ?_); (case side1 => repeat (first | exact HR0.out | (with_reducible refine cA ?_ _) | (with_reducible refine cN ?_ _) | (with_reducible refine cD ?_))); (case side2 => exact HC0.out); rintro e w5 ⟨rfl, hb⟩; refine ⟨_, rfl, ?_⟩; replace HB := tB HB hb; (try clear hb); (try clear hb2); (try clear hk); (try clear hi)) | (go_at_call 68; (with_reducible refine (impl_isOneInside.calls k _ _ l0 t410 _ ?side1 ?side2 A4.out).mono ?_); (case side1 => repeat (first | exact (Kd.C_below HR0.out HB.out) | (with_reducible refine cA ?_ _) | (with_reducible refine cN ?_ _) | (with_reducible refine cD ?_))); (case side2 => exact HC0.out); rintro e w6 ⟨rfl, hb⟩; replace HB := tB HB hb; (try clear hb); (try clear hb2); (try clear hk); (try clear hi)))
  go_ret
  exact ⟨wQ, bQ⟩
 ·replace c3 := Bool.eq_false_iff.mpr c3; subst c3; replace H := iF H; obtain rfl := Option.some.inj H
  go_enter Try.func104, Try.ntmps104
  go_wp2_with (first | ((with_reducible refine gC (f := 65) rfl ?_); refine goesL_ (some 4) rfl rfl Try.func65 kR rfl #[.slice A0 l0.length c0] rfl sQ ?_; (with_reducible refine (impl_IsPolygon.calls k _ _ l0 false _ ?side1 ?side2 A2.out).mono ?_); (case side1 => repeat (first | exact HR0.out | (with_reducible refine cA ?_ _) | (with_reducible refine cN ?_ _) | (with_reducible refine cD ?_))); (case side2 => exact HC0.out); rintro e w7 ⟨rfl, hb⟩; refine ⟨_, rfl, ?_⟩; replace HB := tB HB hb; (try clear hb); (try clear hb2); (try clear hk); (try clear hi)))
  go_ret
  exact ⟨wQ, bQ⟩

def impl_SumOfBoth.f (k : Nat) (l0 : List (S_impl_Peg)) : Option (Int × Bool) := (impl_isDualist.f k l0).bind fun t411 => (if t411 = true then ((impl_around.f k l0).bind fun t412 => ((impl_dual.f k l0).bind fun t413 => ((impl_around.f k t413).bind fun t416 => (some (wrap64 (t412 + t416), true))))) else (some (0, false)))
theorem impl_SumOfBoth.mono : ∀ a0 k, LeO (impl_SumOfBoth.f k a0) (impl_SumOfBoth.f (k + 1) a0) := by
 intro a0 k
 unfold impl_SumOfBoth.f
 repeat' first | (with_reducible exact impl_around.mono _ _) | (with_reducible exact impl_dual.mono _ _) | (with_reducible exact impl_isDualist.mono _ _) | (with_reducible exact LeO.refl _) | (with_reducible exact LeO.none _) | (with_reducible refine LeO.ite ?_ ?_) | (with_reducible refine LeO.bind ?_ (fun _ => ?_)) | exact impl_around.mono _ _ | exact impl_dual.mono _ _ | exact impl_isDualist.mono _ _ | exact LeO.none _ | refine LeO.ite ?_ ?_ | refine LeO.bind ?_ (fun _ => ?_)
set_option maxHeartbeats 8000000 in
set_option maxRecDepth 100000 in
theorem impl_SumOfBoth.calls (k : Nat) (A0 : Option Addr) (c0 : Nat) (l0 : List (S_impl_Peg)) (r1 : Int) (r2 : Bool) (w : World) (hr0 : Kd.C kd_impl_Peg w A0 l0.length l0) (hc0 : l0.length ≤ c0) (h : impl_SumOfBoth.f k l0 = some (r1, r2)) :
  Calls Try.prog 53 #[.slice A0 l0.length c0] w fun e w' => e = .returned (.tuple #[.int .i64 r1, .bool r2]) ∧ Below w.heap.size w w' := by
 have HR0 := aM hr0; have HC0 := aM hc0; clear hr0 hc0; have HB := aM (Below.refl w.heap.size w)
 unfold impl_SumOfBoth.f at h; have H := h; clear h
 replace H := bS H; obtain ⟨t411, A2, H⟩ := H
 by_cases c3 : t411 = true
 ·subst c3; replace H := iT H; replace H := bS H; obtain ⟨t412, A4, H⟩ := H; replace H := bS H; obtain ⟨t413, A5, H⟩ := H; replace H := bS H; obtain ⟨t416, A6, H⟩ := H
  simp only [Option.some.injEq, Prod.mk.injEq] at H
  obtain ⟨rfl, rfl⟩ := H
  go_enter Try.func53, Try.ntmps53
  go_wp2_with (first | ((with_reducible refine gC (f := 104) rfl ?_); refine goesL_ (some 5) rfl rfl Try.func104 kR rfl #[.slice A0 l0.length c0] rfl sQ ?_; (with_reducible refine (impl_isDualist.calls k _ _ l0 true _ ?side1 ?side2 A2.out).mono ?_); (case side1 => repeat (first | exact HR0.out | (with_reducible refine cA ?_ _) | (with_reducible refine cN ?_ _) | (with_reducible refine cD ?_))); (case side2 => exact HC0.out); rintro e w7 ⟨rfl, hb⟩; refine ⟨_, rfl, ?_⟩; replace HB := tB HB hb; (try clear hb); (try clear hb2); (try clear hk); (try clear hi)) | ((with_reducible refine gC (f := 105) rfl ?_); refine goesL_ (some 8) rfl rfl Try.func105 kR rfl #[.slice A0 l0.length c0] rfl sQ ?_; (with_reducible refine (impl_around.calls k _ _ l0 t412 _ ?side1 ?side2 A4.out).mono ?_); (case side1 => repeat (first | exact (Kd.C_below HR0.out HB.out) | (with_reducible refine cA ?_ _) | (with_reducible refine cN ?_ _) | (with_reducible refine cD ?_))); (case side2 => exact HC0.out); rintro e w8 ⟨rfl, hb⟩; refine ⟨_, rfl, ?_⟩; replace HB := tB HB hb; (try clear hb); (try clear hb2); (try clear hk); (try clear hi)) | ((with_reducible refine gC (f := 102) rfl ?_); refine goesL_ (some 10) rfl rfl Try.func102 kR rfl #[.slice A0 l0.length c0] rfl sQ ?_; (with_reducible refine (impl_dual.calls k _ _ l0 t413 _ ?side1 ?side2 A5.out).mono ?_); (case side1 => repeat (first | exact (Kd.C_below HR0.out HB.out) | (with_reducible refine cA ?_ _) | (with_reducible refine cN ?_ _) | (with_reducible refine cD ?_))); (case side2 => exact HC0.out); rintro e w9 ⟨v414, rfl, ho0, hb⟩; refine ⟨_, rfl, ?_⟩; have HO415 := aM (Kd.R_lower ho0 (pZ bQ)); replace HB := tB HB hb; (try clear hb); (try clear hb2); (try clear hk); (try clear hi); (try clear ho0); obtain ⟨Ao10, co10, eo10⟩ := Kd.R_slice HO415.out; subst eo10) | ((with_reducible refine gC (f := 105) rfl ?_); refine goesL_ (some 11) rfl rfl Try.func105 kR rfl #[.slice Ao10 t413.length co10] rfl sQ ?_; (with_reducible refine (impl_around.calls k _ _ t413 t416 _ ?side1 ?side2 A6.out).mono ?_); (case side1 => repeat (first | exact (rR HO415.out).2.2 | (with_reducible refine cA ?_ _) | (with_reducible refine cN ?_ _) | (with_reducible refine cD ?_))); (case side2 => exact (rR HO415.out).2.1); rintro e w11 ⟨rfl, hb⟩; refine ⟨_, rfl, ?_⟩; replace HO415 := aM (Kd.R_below (by (with_reducible repeat (first | apply rA | apply rN | apply rD)); exact HO415.out) hb); replace HB := tB HB hb; (try clear hb); (try clear hb2); (try clear hk); (try clear hi)))
  go_ret2
  exact ⟨wQ, bQ⟩
 ·replace c3 := Bool.eq_false_iff.mpr c3; subst c3; replace H := iF H
  simp only [Option.some.injEq, Prod.mk.injEq] at H
  obtain ⟨rfl, rfl⟩ := H
  go_enter Try.func53, Try.ntmps53
  go_wp2_with (first | ((with_reducible refine gC (f := 104) rfl ?_); refine goesL_ (some 5) rfl rfl Try.func104 kR rfl #[.slice A0 l0.length c0] rfl sQ ?_; (with_reducible refine (impl_isDualist.calls k _ _ l0 false _ ?side1 ?side2 A2.out).mono ?_); (case side1 => repeat (first | exact HR0.out | (with_reducible refine cA ?_ _) | (with_reducible refine cN ?_ _) | (with_reducible refine cD ?_))); (case side2 => exact HC0.out); rintro e w12 ⟨rfl, hb⟩; refine ⟨_, rfl, ?_⟩; replace HB := tB HB hb; (try clear hb); (try clear hb2); (try clear hk); (try clear hi)))
  go_ret2
  exact ⟨wQ, bQ⟩

end Go.Proofs.Ytklhakfmegbobaa.X
