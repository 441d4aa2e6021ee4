-- thin
-- short
-- compact
import Derived.Test.YtklhakfmegbobaaXA
import Derived.Test.YtklhakfmegbobaaX0
import Derived.Test.YtklhakfmegbobaaX9
import Derived.Test.YtklhakfmegbobaaX11
import Derived.Test.YtklhakfmegbobaaX19
namespace Go.Proofs.Ytklhakfmegbobaa.X
open Go.RowKit Go.Proofs.Ytklhakfmegbobaa.XW Go.Proofs.YtklhakfmegbobaaW.PrintWords Go.Proofs.YtklhakfmegbobaaW.PrintLast Go.Proofs.YtklhakfmegbobaaW.PrintMore
attribute [local go_sem] max2_int min2_int max_two min_two max_three min_three max_four min_four   -- for this text's walks alone
set_option linter.unusedVariables false
set_option linter.unusedSimpArgs false

def impl_twice.l0 : Nat → List (S_impl_Peg) → Int → List (S_impl_Peg) → Int → Int → Option (Int)
 | 0, _, _, _, _, _ => none
 | k + 1, x0, x3, x6, x7, x8 => if x8 < x7 then (if 0 ≤ x8 then (if x8 < (x6.length : Int) then ((impl_at.f x0 (wrap64 (x8 + 1))).bind fun bt437 => ((impl_cross.f ((rd_impl_Peg x6 x8).f0) ((rd_impl_Peg x6 x8).f1) bt437.1 bt437.2).bind fun t439 => (impl_twice.l0 k x0 (wrap64 (x3 + t439)) x6 x7 (wrap64 (x8 + 1))))) else (none)) else (none)) else (some x3)
def impl_twice.f (k : Nat) (l0 : List (S_impl_Peg)) : Option (Int) := impl_twice.l0 k l0 0 l0 (l0.length : Int) 0
theorem impl_twice.mono_l : ∀ k, (∀ y0 y1 y2 y3 y4, LeO (impl_twice.l0 k y0 y1 y2 y3 y4) (impl_twice.l0 (k + 1) y0 y1 y2 y3 y4))
 | 0 => fun _ _ _ _ _ r h => by simp [impl_twice.l0] at h
 | k + 1 => by
  have ih0 := impl_twice.mono_l k
  ·intro y0 y1 y2 y3 y4
   unfold impl_twice.l0
   repeat' first
   | (with_reducible exact ih0 _ _ _ _ _)
   | (with_reducible exact LeO.refl _)
   | (with_reducible exact LeO.none _)
   | (with_reducible refine LeO.ite ?_ ?_)
   | (with_reducible refine LeO.bind ?_ (fun _ => ?_))
   | exact ih0 _ _ _ _ _
   | exact LeO.none _
   | refine LeO.ite ?_ ?_
   | refine LeO.bind ?_ (fun _ => ?_)
theorem impl_twice.mono : ∀ a0 k, LeO (impl_twice.f k a0) (impl_twice.f (k + 1) a0) := by
 intro a0 k
 have ih0 := impl_twice.mono_l k
 unfold impl_twice.f
 repeat' first | (with_reducible exact ih0 _ _ _ _ _) | (with_reducible exact LeO.refl _) | (with_reducible exact LeO.none _) | (with_reducible refine LeO.ite ?_ ?_) | (with_reducible refine LeO.bind ?_ (fun _ => ?_)) | exact ih0 _ _ _ _ _ | exact LeO.none _ | refine LeO.ite ?_ ?_ | refine LeO.bind ?_ (fun _ => ?_)
def impl_twice.T5 : Bool × List (List Nat × List Nat) := (true, [([], []), ([], []), ([], []), ([], []), ([3], [3]), ([2, 4], [2, 4]), ([1, 5, 5], [1, 5]), ([0, 6], [0, 6]), ([7, 6, 0, 1, 2, 3, 4, 5, 6, 7], [0, 7])])
def impl_twice.B5 : List Nat := [0, 0, 0, 0, 8, 28, 62, 127, 255]
theorem impl_twice.tab5 : rtab .any (opsOf Try.f61 5) = impl_twice.T5 := by kernel_rfl
theorem impl_twice.bits5 : waitsOk impl_twice.T5.2 impl_twice.B5 = true := by kernel_rfl
set_option maxHeartbeats 8000000 in
set_option maxRecDepth 100000 in
theorem impl_twice.calls (k : Nat) (A0 : Option Addr) (c0 : Nat) (l0 : List (S_impl_Peg)) (r : Int) (w : World) (hr0 : Kd.C kd_impl_Peg w A0 l0.length l0) (hc0 : l0.length ≤ c0) (h : impl_twice.f k l0 = some r) :
  Calls Try.prog 61 #[.slice A0 l0.length c0] w fun e w' => e = .returned (.int .i64 r) ∧ Below w.heap.size w w' := by
 have hu26 := Try.underlying26; have HR0 := aM hr0; have HC0 := aM hc0; clear hr0 hc0; have HB := aM (Below.refl w.heap.size w)
 unfold impl_twice.f at h; have H := h; clear h
 have H' := aM H; clear H
 go_enter Try.func61, Try.ntmps61
 go_wp2
 go_loopg [3, 8] k (fun kq v3 v8 w' => ∃ (x3_1 : Int) (x8_1 : Int), v3 = .int .i64 x3_1 ∧ v8 = .int .i64 x8_1 ∧ Aside0 (impl_twice.l0 kq l0 x3_1 l0 (l0.length : Int) x8_1 = some r) ∧ Aside0 (kq ≤ k) ∧ Aside0 (Below w.heap.size w w'))
 case atStart => exact ⟨(0), (0), eQ, eQ, H', ⟨Nat.le_refl _⟩, ⟨bQ⟩⟩
 case round =>
  clear H'; obtain ⟨x3_1, x8_1, rfl, rfl, HA, HK1, HB⟩ := hrel
  cases gk with
  | zero => exact absurd HA.out (by simp [impl_twice.l0])
  | succ k1 =>
   have H := HA.out; clear HA
   simp only [impl_twice.l0] at H
   by_cases c2 : x8_1 < (l0.length : Int)
   ·rw [if_pos c2] at H; have c2b0 := dE c2; clear c2; replace H := iD H; obtain ⟨c3b0, H⟩ := H; replace H := iD H; obtain ⟨c4b0, H⟩ := H; replace H := bS H; obtain ⟨⟨t437, t438⟩, A5, H⟩ := H; replace H := bS H; obtain ⟨t439, A6, H⟩ := H; have H' := aM H; clear H; have p435 : 0 ≤ (x8_1 : Int) := dT aQ; have q435 : x8_1 < (l0.length : Int) := dT aQ; obtain ⟨ad435, e435, hx435_0, hx435_1⟩ := at_impl_Peg HR0.out x8_1 p435 q435
    cases e435
    replace hx435_0 := hC HB hx435_0; replace hx435_1 := hC HB hx435_1; replace p435 := eq_true p435; replace q435 := eq_true q435
    try go_wp2_with (first | ((with_reducible refine gate_dst (N := 5) rfl ?_); refine bV 5 (cs := #[.int .i64 0, .int .i64 0]) (t := 26) rfl rfl (by first | (go_simp; done) | (go_simp; rfl)) ?_; intro gb436 hg w7 hbox hb; have BK436 := hbox; have GW436 := gZ HB hg; have GE436 := gZ HB hg; replace HB := tB HB hb; clear hb hbox hg; have hcz8_0 := vZ0 BK436; have hcz8_1 := vZ1 BK436; have hfz8_0 := kF BK436.out 0; have hfz8_1 := kF BK436.out 1))
    have n0_ : Aside0 (((w7.setCell ⟨gb436, 0, none⟩ (.int .i64 ((rd_impl_Peg l0 x8_1).f0))).setCell ⟨gb436, 1, none⟩ (.int .i64 ((rd_impl_Peg l0 x8_1).f1))).heap[gb436]? = some (.cells #[.int .i64 ((rd_impl_Peg l0 x8_1).f0), .int .i64 ((rd_impl_Peg l0 x8_1).f1)] 26 (0, 0))) := ⟨fQ BK436⟩; have n1_ : Aside0 (Below w.heap.size w ((w7.setCell ⟨gb436, 0, none⟩ (.int .i64 ((rd_impl_Peg l0 x8_1).f0))).setCell ⟨gb436, 1, none⟩ (.int .i64 ((rd_impl_Peg l0 x8_1).f1)))) := ⟨bE⟩; (try clear BK436); (try clear HB)
    generalize ((w7.setCell ⟨gb436, 0, none⟩ (.int .i64 ((rd_impl_Peg l0 x8_1).f0))).setCell ⟨gb436, 1, none⟩ (.int .i64 ((rd_impl_Peg l0 x8_1).f1))) = w9 at n0_ n1_ ⊢
    have BK436 := n0_; have HB := n1_; clear n0_ n1_; replace BK436 := aM (kD BK436.out); replace HB := aM (pD HB.out)
    refine start_ (n := 9) (S := fun w' => w'.cell? ⟨gb436, 0, none⟩ = some (.int .i64 ((rd_impl_Peg l0 x8_1).f0)) ∧ w'.cell? ⟨gb436, 1, none⟩ = some (.int .i64 ((rd_impl_Peg l0 x8_1).f1))) (ds := []) (bA 9 0) kR rfl kR ⟨vZ0 BK436, vZ1 BK436⟩ (fun hHeld => ?_); refine with_tabW impl_twice.tab5 impl_twice.bits5 (fun HT_ HW_ => ?_)
    generalize w9.drew = w10 at BK436 HB hHeld ⊢
    refine pU 0 13 (bA 9 1) HT_ ?_; refine pU 2 15 (bA 9 5) HT_ ?_; refine pU 3 16 (bA 9 13) HT_ ?_; refine pU 4 17 (bA 9 29) HT_ ?_
    refine tU 1 14 (bA 9 31) HT_ HW_ hHeld ?_ (hy := Or.inl ⟨by rfl, by rintro w' ⟨s0, s1⟩; go_simp; with_reducible rfl⟩)
    refine oU 5 18 (bA 9 63) HT_ (fun K hK => ?_)
    refine goes_ Try.func108 kR rfl #[.slice (some ad435) l0.length c0, .int .i64 (wrap64 (x8_1 + 1))] (by rfl) rfl rfl sQ ?_
    with_reducible refine (impl_at.calls _ _ l0 (wrap64 (x8_1 + 1)) t437 t438 _ ?side1 ?side2 A5.out).mono ?_
    (case side1 => repeat (first | exact (Kd.C_below HR0.out HB.out) | (with_reducible refine cA ?_ _) | (with_reducible refine cN ?_ _) | (with_reducible refine cD ?_)))
    (case side2 => exact HC0.out)
    rintro e w11 ⟨rfl, hb⟩; refine ⟨_, rfl, ?_⟩; replace BK436 := bB BK436 hb; replace HB := tB HB hb; (try clear hb); (try clear hb2); (try clear hk); (try clear hi)
    refine hK.out _ _ ⟨vZ0 BK436, vZ1 BK436⟩ (fun hHeld => ?_)
    clear hK K
    refine nU ?_
    refine oU 6 19 (bA 9 127) HT_ (fun K hK => ?_)
    refine goes_ Try.func107 kR rfl #[.agg #[.int .i64 ((rd_impl_Peg l0 x8_1).f0), .int .i64 ((rd_impl_Peg l0 x8_1).f1)], .agg #[.int .i64 t437, .int .i64 t438]] (by rfl) rfl rfl sQ ?_
    with_reducible refine (impl_cross.calls ((rd_impl_Peg l0 x8_1).f0) ((rd_impl_Peg l0 x8_1).f1) t437 t438 t439 _ A6.out).mono ?_
    rintro e w12 ⟨rfl, hb⟩; refine ⟨_, rfl, ?_⟩; replace BK436 := bB BK436 hb; replace HB := tB HB hb; (try clear hb); (try clear hb2); (try clear hk); (try clear hi)
    refine hK.out _ _ ⟨vZ0 BK436, vZ1 BK436⟩ (fun hHeld => ?_)
    clear hK K
    refine nU ?_
    refine pU 7 20 (bA 9 255) HT_ ?_; refine pU 8 3 (bA 9 511) HT_ ?_
    refine done_ (done_of HT_.out kR) ?_
    try go_wp2
    go_roundg k1
    case measure => have := HK1.out; omega
    case rel => exact ⟨(wrap64 (x3_1 + t439)), (wrap64 (x8_1 + 1)), eQ, eQ, H', ⟨by have := HK1.out; omega⟩, ⟨bE⟩⟩
   ·rw [if_neg c2] at H; have c2b0 := decide_eq_false c2; clear c2; obtain rfl := Option.some.inj H; go_wp2
    go_ret
    exact ⟨wQ, bQ⟩

def impl_sign.f (a0 : Int) : Option (Int) := some (mn 1 (mx (-1) a0))
set_option maxHeartbeats 8000000 in
set_option maxRecDepth 100000 in
theorem impl_sign.calls (a0 : Int) (r : Int) (w : World) (h : impl_sign.f a0 = some r) :
  Calls Try.prog 125 #[.int .i64 a0] w fun e w' => e = .returned (.int .i64 r) ∧ Below w.heap.size w w' := by
 have HB := aM (Below.refl w.heap.size w)
 unfold impl_sign.f at h; have H := h; clear h
 obtain ⟨ji2, hji2⟩ : ∃ j_ : Int, (mx (-1) a0) = j_ := ⟨_, rfl⟩
 (first | rw [hji2] at H | simp only [hji2] at H)
 have hji2_ : (if (-1) < a0 then a0 else (-1)) = ji2 := hji2; obtain ⟨ji3, hji3⟩ : ∃ j_ : Int, (mn 1 (ji2)) = j_ := ⟨_, rfl⟩
 (first | rw [hji3] at H | simp only [hji3] at H)
 have hji3_ : (if (ji2) < 1 then (ji2) else 1) = ji3 := hji3; obtain rfl := Option.some.inj H
 go_enter Try.func125, Try.ntmps125
 go_wp2
 go_ret
 exact ⟨by first | rfl | (simp [errW_none, errW_some] <;> rfl) | (simp only [← hji2, ← hji3]; first | rfl | (simp [errW_none, errW_some] <;> rfl)) | (simp [*, errW_none, errW_some] <;> rfl), bQ⟩

def impl_tellFirst.f (k : Nat) (l0 : List (S_impl_Peg)) : Option ((List (S_impl_Peg))) := (impl_first.f k l0).bind fun t440 => ((impl_twice.f k l0).bind fun t441 => ((impl_sign.f t441).bind fun t442 => ((impl_told.f k l0 t440 t442).bind fun t443 => (some t443))))
theorem impl_tellFirst.mono : ∀ a0 k, LeO (impl_tellFirst.f k a0) (impl_tellFirst.f (k + 1) a0) := by
 intro a0 k
 unfold impl_tellFirst.f
 repeat' first | (with_reducible exact impl_first.mono _ _) | (with_reducible exact impl_told.mono _ _ _ _) | (with_reducible exact impl_twice.mono _ _) | (with_reducible exact LeO.refl _) | (with_reducible exact LeO.none _) | (with_reducible refine LeO.ite ?_ ?_) | (with_reducible refine LeO.bind ?_ (fun _ => ?_)) | exact impl_first.mono _ _ | exact impl_told.mono _ _ _ _ | exact impl_twice.mono _ _ | exact LeO.none _ | refine LeO.ite ?_ ?_ | refine LeO.bind ?_ (fun _ => ?_)
set_option maxHeartbeats 8000000 in
set_option maxRecDepth 100000 in
theorem impl_tellFirst.calls (k : Nat) (A0 : Option Addr) (c0 : Nat) (l0 : List (S_impl_Peg)) (r : List (S_impl_Peg)) (w : World) (hr0 : Kd.C kd_impl_Peg w A0 l0.length l0) (hc0 : l0.length ≤ c0) (h : impl_tellFirst.f k l0 = some r) :
  Calls Try.prog 78 #[.slice A0 l0.length c0] w fun e w' => ∃ v0_ : Value, e = .returned (v0_) ∧ Kd.R kd_impl_Peg 26 w' w.heap.size (fun _ => True) v0_ r ∧ Below w.heap.size w w' := by
 have HR0 := aM hr0; have HC0 := aM hc0; clear hr0 hc0; have HB := aM (Below.refl w.heap.size w)
 unfold impl_tellFirst.f at h; have H := h; clear h
 replace H := bS H; obtain ⟨t440, A2, H⟩ := H; replace H := bS H; obtain ⟨t441, A3, H⟩ := H; replace H := bS H; obtain ⟨t442, A4, H⟩ := H; replace H := bS H; obtain ⟨t443, A5, H⟩ := H; obtain rfl := Option.some.inj H
 go_enter Try.func78, Try.ntmps78
 go_wp2_with (first | ((with_reducible refine gC (f := 123) rfl ?_); refine goesL_ (some 5) rfl rfl Try.func123 kR rfl #[.slice A0 l0.length c0] rfl sQ ?_; (with_reducible refine (impl_first.calls k _ _ l0 t440 _ ?side1 ?side2 A2.out).mono ?_); (case side1 => repeat (first | exact HR0.out | (with_reducible refine cA ?_ _) | (with_reducible refine cN ?_ _) | (with_reducible refine cD ?_))); (case side2 => exact HC0.out); rintro e w6 ⟨rfl, hb⟩; refine ⟨_, rfl, ?_⟩; replace HB := tB HB hb; (try clear hb); (try clear hb2); (try clear hk); (try clear hi)) | ((with_reducible refine gC (f := 61) rfl ?_); refine goesL_ (some 7) rfl rfl Try.func61 kR rfl #[.slice A0 l0.length c0] rfl sQ ?_; (with_reducible refine (impl_twice.calls k _ _ l0 t441 _ ?side1 ?side2 A3.out).mono ?_); (case side1 => repeat (first | exact (Kd.C_below HR0.out HB.out) | (with_reducible refine cA ?_ _) | (with_reducible refine cN ?_ _) | (with_reducible refine cD ?_))); (case side2 => exact HC0.out); rintro e w7 ⟨rfl, hb⟩; refine ⟨_, rfl, ?_⟩; replace HB := tB HB hb; (try clear hb); (try clear hb2); (try clear hk); (try clear hi)) | ((with_reducible refine gC (f := 125) rfl ?_); refine goesL_ (some 8) rfl rfl Try.func125 kR rfl #[.int .i64 t441] rfl sQ ?_; (with_reducible refine (impl_sign.calls t441 t442 _ A4.out).mono ?_); rintro e w8 ⟨rfl, hb⟩; refine ⟨_, rfl, ?_⟩; replace HB := tB HB hb; (try clear hb); (try clear hb2); (try clear hk); (try clear hi)) | ((with_reducible refine gC (f := 66) rfl ?_); refine goesL_ (some 9) rfl rfl Try.func66 kR rfl #[.slice A0 l0.length c0, .int .i64 t440, .int .i64 t442] rfl sQ ?_; (with_reducible refine (impl_told.calls k _ _ l0 t440 t442 t443 _ ?side1 ?side2 A5.out).mono ?_); (case side1 => repeat (first | exact (Kd.C_below HR0.out HB.out) | (with_reducible refine cA ?_ _) | (with_reducible refine cN ?_ _) | (with_reducible refine cD ?_))); (case side2 => exact HC0.out); rintro e w9 ⟨v444, rfl, ho0, hb⟩; refine ⟨_, rfl, ?_⟩; have HO445 := aM (Kd.R_lower ho0 (pZ bQ)); replace HB := tB HB hb; (try clear hb); (try clear hb2); (try clear hk); (try clear hi); (try clear ho0)))
 go_ret
 exact ⟨_, by first | rfl | (simp [errW_none, errW_some] <;> rfl) | (simp [*, errW_none, errW_some] <;> rfl), by (with_reducible repeat (first | apply rA | apply rN | apply rD)); exact HO445.out, bQ⟩

def impl_dual.l0 : Nat → List (S_impl_Peg) → List (S_impl_Peg) → List (S_impl_Peg) → Int → Int → Option ((List (S_impl_Peg)))
 | 0, _, _, _, _, _ => none
 | k + 1, x0, x3, x11, x12, x13 => if x13 < x12 then (if 0 ≤ x13 then (if x13 < (x11.length : Int) then ((impl_at.f x0 (wrap64 (x13 + 1))).bind fun bt454 => ((impl_cross.f ((rd_impl_Peg x11 x13).f0) ((rd_impl_Peg x11 x13).f1) bt454.1 bt454.2).bind fun t457 => (if t457 = 0 then (none) else (if x3.length < 8796093022208 then (impl_dual.l0 k x0 (x3 ++ [(⟨wrap64 (Int.tdiv (wrap64 (bt454.2 - ((rd_impl_Peg x11 x13).f1))) t457), wrap64 (Int.tdiv (wrap64 (((rd_impl_Peg x11 x13).f0) - bt454.1)) t457)⟩ : S_impl_Peg)]) x11 x12 (wrap64 (x13 + 1))) else (none))))) else (none)) else (none)) else ((impl_first.f k x3).bind fun t461 => ((impl_told.f k x3 t461 1).bind fun t462 => (some t462)))
def impl_dual.f (k : Nat) (l0 : List (S_impl_Peg)) : Option ((List (S_impl_Peg))) := (impl_tellFirst.f k l0).bind fun t446 => (impl_dual.l0 k t446 (([] : List (S_impl_Peg))) t446 (t446.length : Int) 0)
theorem impl_dual.mono_l : ∀ k, (∀ y0 y1 y2 y3 y4, LeO (impl_dual.l0 k y0 y1 y2 y3 y4) (impl_dual.l0 (k + 1) y0 y1 y2 y3 y4))
 | 0 => fun _ _ _ _ _ r h => by simp [impl_dual.l0] at h
 | k + 1 => by
  have ih0 := impl_dual.mono_l k
  ·intro y0 y1 y2 y3 y4
   unfold impl_dual.l0
   repeat' first
   | (with_reducible exact ih0 _ _ _ _ _)
   | (with_reducible exact impl_first.mono _ _)
   | (with_reducible exact impl_tellFirst.mono _ _)
   | (with_reducible exact impl_told.mono _ _ _ _)
   | (with_reducible exact LeO.refl _)
   | (with_reducible exact LeO.none _)
   | (with_reducible refine LeO.ite ?_ ?_)
   | (with_reducible refine LeO.bind ?_ (fun _ => ?_))
   | exact ih0 _ _ _ _ _
   | exact impl_first.mono _ _
   | exact impl_tellFirst.mono _ _
   | exact impl_told.mono _ _ _ _
   | exact LeO.none _
   | refine LeO.ite ?_ ?_
   | refine LeO.bind ?_ (fun _ => ?_)
theorem impl_dual.mono : ∀ a0 k, LeO (impl_dual.f k a0) (impl_dual.f (k + 1) a0) := by
 intro a0 k
 have ih0 := impl_dual.mono_l k
 unfold impl_dual.f
 repeat' first | (with_reducible exact ih0 _ _ _ _ _) | (with_reducible exact impl_first.mono _ _) | (with_reducible exact impl_tellFirst.mono _ _) | (with_reducible exact impl_told.mono _ _ _ _) | (with_reducible exact LeO.refl _) | (with_reducible exact LeO.none _) | (with_reducible refine LeO.ite ?_ ?_) | (with_reducible refine LeO.bind ?_ (fun _ => ?_)) | exact ih0 _ _ _ _ _ | exact impl_first.mono _ _ | exact impl_tellFirst.mono _ _ | exact impl_told.mono _ _ _ _ | exact LeO.none _ | refine LeO.ite ?_ ?_ | refine LeO.bind ?_ (fun _ => ?_)
def impl_dual.T8 : Bool × List (List Nat × List Nat) := (true, [([], []), ([], []), ([1], [1]), ([], []), ([3], [3]), ([2, 4], [2, 4]), ([], []), ([5, 6], [5, 6]), ([], []), ([8], [8]), ([], []), ([10], [10]), ([9, 11], [9, 11]), ([], []), ([12, 13], [12, 13]), ([7, 14], [7, 14]), ([15], [15]), ([0, 16], [0, 16]), ([17, 17, 0, 1, 2, 3, 4, 5, 6, 7, 8, 9, 10, 11, 12, 13, 14, 15, 16, 17], [0, 17])])
def impl_dual.B8 : List Nat := [0, 0, 2, 0, 8, 30, 0, 126, 0, 256, 0, 1024, 3840, 0, 16128, 32766, 65534, 131071, 262143]
theorem impl_dual.tab8 : rtab .any (opsOf Try.f102 8) = impl_dual.T8 := by kernel_rfl
theorem impl_dual.bits8 : waitsOk impl_dual.T8.2 impl_dual.B8 = true := by kernel_rfl
set_option maxHeartbeats 8000000 in
set_option maxRecDepth 100000 in
theorem impl_dual.calls (k : Nat) (A0 : Option Addr) (c0 : Nat) (l0 : List (S_impl_Peg)) (r : List (S_impl_Peg)) (w : World) (hr0 : Kd.C kd_impl_Peg w A0 l0.length l0) (hc0 : l0.length ≤ c0) (h : impl_dual.f k l0 = some r) :
  Calls Try.prog 102 #[.slice A0 l0.length c0] w fun e w' => ∃ v0_ : Value, e = .returned (v0_) ∧ Kd.R kd_impl_Peg 26 w' w.heap.size (fun _ => True) v0_ r ∧ Below w.heap.size w w' := by
 have hu26 := Try.underlying26; have HR0 := aM hr0; have HC0 := aM hc0; clear hr0 hc0; have HB := aM (Below.refl w.heap.size w)
 unfold impl_dual.f at h; have H := h; clear h
 replace H := bS H; obtain ⟨t446, A2, H⟩ := H; obtain ⟨y449, hy449⟩ : ∃ y_ : List (S_impl_Peg), y_ = (([] : List (S_impl_Peg))) := ⟨_, rfl⟩; rw [← hy449] at H; have Ny449 := aM hy449; clear hy449; have H' := aM H; clear H
 go_enter Try.func102, Try.ntmps102
 go_wp2_with (first | ((with_reducible refine gC (f := 78) rfl ?_); refine goesL_ (some 9) rfl rfl Try.func78 kR rfl #[.slice A0 l0.length c0] rfl sQ ?_; (with_reducible refine (impl_tellFirst.calls k _ _ l0 t446 _ ?side1 ?side2 A2.out).mono ?_); (case side1 => repeat (first | exact HR0.out | (with_reducible refine cA ?_ _) | (with_reducible refine cN ?_ _) | (with_reducible refine cD ?_))); (case side2 => exact HC0.out); rintro e w3 ⟨v447, rfl, ho0, hb⟩; refine ⟨_, rfl, ?_⟩; have HO448 := aM (Kd.R_lower ho0 (pZ bQ)); replace HB := tB HB hb; (try clear hb); (try clear hb2); (try clear hk); (try clear hi); (try clear ho0)) | ((with_reducible refine gate_dst (N := 10) rfl ?_); refine Kd.R_lit kd_impl_Peg _ 26 ?hg (N := 10) ?hd (xs := ([] : List (S_impl_Peg))) (inner := []) (ok := fun _ => True) (okp := fun _ => True) ?hr ?hp (fun _ hk => hk) trivial (Below.refl _ _) (Nat.le_refl _) (by simp) ?_; (case hd => rfl); (case hg => rfl); (case hr => first | (go_simp; done) | (go_simp; rfl)); (case hp => exact (Reps.none _ _)); intro v450 w4 ho5 hb hg_ hnew_; clear hg_ hnew_; (first | rw [← Ny449.out] at ho5 | (simp only [Int.reduceToNat] at ho5; rw [← Ny449.out] at ho5)); have HO451 := aM (Kd.R_lower (Kd.R_new' ho5 (Kd.R_lt (by (with_reducible repeat (first | apply rA | apply rN | apply rD)); exact HO448.out))) (pZ bQ)); replace HO448 := aM (Kd.R_elder' (by (with_reducible repeat (first | apply rA | apply rN | apply rD)); exact HO448.out) (Kd.R_base ho5) hb); replace HB := tB HB hb; clear hb ho5; obtain ⟨Ao6, co6, eo6⟩ := Kd.R_slice HO448.out; subst eo6))
 go_loopg [3, 13] k (fun kq v3 v13 w' => ∃ (x3_1 : List (S_impl_Peg)) (x13_1 : Int), v13 = .int .i64 x13_1 ∧ Aside0 (impl_dual.l0 kq t446 x3_1 t446 (t446.length : Int) x13_1 = some r) ∧ Aside0 (kq ≤ k) ∧ Aside0 (Kd.R kd_impl_Peg 26 w' w.heap.size (fun k_ => some k_ ≠ (v3 : Value).ownBlock) (.slice Ao6 t446.length co6) t446) ∧ Aside0 (Kd.R kd_impl_Peg 26 w' w.heap.size (fun k_ => some k_ ≠ ((.slice Ao6 t446.length co6) : Value).ownBlock ∧ some k_ ≠ ((.slice Ao6 t446.length co6) : Value).ownBlock) v3 x3_1) ∧ Aside0 (Kd.R kd_impl_Peg 26 w' w.heap.size (fun k_ => some k_ ≠ (v3 : Value).ownBlock) (.slice Ao6 t446.length co6) t446) ∧ Aside0 (Below w.heap.size w w'))
 case atStart => exact ⟨(y449), (0), eQ, H', ⟨Nat.le_refl _⟩, ⟨by (with_reducible repeat (first | apply rA | apply rN | apply rD)); exact Kd.R_mono HO448.out (fun _ hk => hk.2)⟩, ⟨by (with_reducible repeat (first | apply rA | apply rN | apply rD)); exact Kd.R_mono HO451.out (fun _ hk => ⟨hk.2, hk.2⟩)⟩, ⟨by (with_reducible repeat (first | apply rA | apply rN | apply rD)); exact Kd.R_mono HO448.out (fun _ hk => hk.2)⟩, ⟨bQ⟩⟩
 case round =>
  clear H'; obtain ⟨x3_1, x13_1, rfl, HA, HK1, HO_0, HO_3, HO_11, HB⟩ := hrel
  cases gk with
  | zero => exact absurd HA.out (by simp [impl_dual.l0])
  | succ k1 =>
   have H := HA.out; clear HA
   simp only [impl_dual.l0] at H
   by_cases c7 : x13_1 < (t446.length : Int)
   ·rw [if_pos c7] at H; have c7b0 := dE c7; clear c7; replace H := iD H; obtain ⟨c8b0, H⟩ := H; replace H := iD H; obtain ⟨c9b0, H⟩ := H; replace H := bS H; obtain ⟨⟨t454, t455⟩, A10, H⟩ := H; replace H := bS H; obtain ⟨t457, A11, H⟩ := H; replace H := iM H; obtain ⟨c12, H⟩ := H; have c12b0 : (t457 == 0) = false := beq_eq_false_iff_ne.mpr c12; have c12b1 : (t457 != 0) = true := bne_iff_ne.mpr c12; replace H := iN H; obtain ⟨c13, H⟩ := H; have LMc13 := aM c13; clear c13; obtain ⟨y458, hy458⟩ : ∃ y_ : List (S_impl_Peg), y_ = (x3_1 ++ [(⟨wrap64 (Int.tdiv (wrap64 (t455 - ((rd_impl_Peg t446 x13_1).f1))) t457), wrap64 (Int.tdiv (wrap64 (((rd_impl_Peg t446 x13_1).f0) - t454)) t457)⟩ : S_impl_Peg)]) := ⟨_, rfl⟩; rw [← hy458] at H; have Ny458 := aM hy458; clear hy458; have H' := aM H; clear H; have p452 : 0 ≤ (x13_1 : Int) := dT aQ; have q452 : x13_1 < (t446.length : Int) := dT aQ; obtain ⟨ad452, e452, hx452_0, hx452_1⟩ := at_impl_Peg (rR HO_11.out).2.2 x13_1 p452 q452
    cases e452
    replace p452 := eq_true p452; replace q452 := eq_true q452
    try go_wp2_with (first | ((with_reducible refine gate_dst (N := 5) rfl ?_); refine bV 5 (cs := #[.int .i64 0, .int .i64 0]) (t := 26) rfl rfl (by first | (go_simp; done) | (go_simp; rfl)) ?_; intro gb453 hg w14 hbox hb; have BK453 := hbox; have GW453 := gZ HB hg; have GE453 := gZ HB hg; replace HO_0 := aM (Kd.R_below (Kd.R_elderB (by (with_reducible repeat (first | apply rA | apply rN | apply rD)); exact HO_0.out) gb453 (Nat.le_of_eq hg.symm)) hb); replace HO_3 := aM (Kd.R_below (Kd.R_elderB (by (with_reducible repeat (first | apply rA | apply rN | apply rD)); exact HO_3.out) gb453 (Nat.le_of_eq hg.symm)) hb); replace HO_11 := aM (Kd.R_below (Kd.R_elderB (by (with_reducible repeat (first | apply rA | apply rN | apply rD)); exact HO_11.out) gb453 (Nat.le_of_eq hg.symm)) hb); replace HB := tB HB hb; clear hb hbox hg; have hcz15_0 := vZ0 BK453; have hcz15_1 := vZ1 BK453; have hfz15_0 := kF BK453.out 0; have hfz15_1 := kF BK453.out 1) | ((with_reducible refine gC (f := 108) rfl ?_); refine goesL_ (some 21) rfl rfl Try.func108 kR rfl #[.slice (some ad452) t446.length co6, .int .i64 (wrap64 (x13_1 + 1))] rfl sQ ?_; (with_reducible refine (impl_at.calls _ _ t446 (wrap64 (x13_1 + 1)) t454 t455 _ ?side1 ?side2 A10.out).mono ?_); (case side1 => refine (rR (e := 26) (base := w.heap.size) (ok := fun k_ => (some k_ ≠ (u3 : Value).ownBlock ∧ k_ ≠ gb453)) (n := t446.length) (c := co6) ?_).2.2; exact (by (with_reducible repeat (first | apply rA | apply rN | apply rD)); exact (Kd.R_mono (Kd.R_far (p := ⟨gb453, 1, none⟩) (Kd.R_far (p := ⟨gb453, 0, none⟩) (Kd.R_mono HO_0.out (fun k_ hk => (⟨hk, hk.2⟩ : _ ∧ k_ ≠ gb453))) (fun _ hk => hk.2) (.int .i64 ((rd_impl_Peg t446 x13_1).f0))) (fun _ hk => hk.2) (.int .i64 ((rd_impl_Peg t446 x13_1).f1))) (fun _ h_ => h_.1)))); (case side2 => exact (rR HO_0.out).2.1); rintro e w16 ⟨rfl, hb⟩; refine ⟨_, rfl, ?_⟩; replace HO_0 := aM (Kd.R_below (by (with_reducible repeat (first | apply rA | apply rN | apply rD)); exact (Kd.R_mono (Kd.R_far (p := ⟨gb453, 1, none⟩) (Kd.R_far (p := ⟨gb453, 0, none⟩) (Kd.R_mono HO_0.out (fun k_ hk => (⟨hk, hk.2⟩ : _ ∧ k_ ≠ gb453))) (fun _ hk => hk.2) (.int .i64 ((rd_impl_Peg t446 x13_1).f0))) (fun _ hk => hk.2) (.int .i64 ((rd_impl_Peg t446 x13_1).f1))) (fun _ h_ => h_.1))) hb); replace HO_3 := aM (Kd.R_below (by (with_reducible repeat (first | apply rA | apply rN | apply rD)); exact (Kd.R_mono (Kd.R_far (p := ⟨gb453, 1, none⟩) (Kd.R_far (p := ⟨gb453, 0, none⟩) (Kd.R_mono HO_3.out (fun k_ hk => (⟨hk, hk.2⟩ : _ ∧ k_ ≠ gb453))) (fun _ hk => hk.2) (.int .i64 ((rd_impl_Peg t446 x13_1).f0))) (fun _ hk => hk.2) (.int .i64 ((rd_impl_Peg t446 x13_1).f1))) (fun _ h_ => h_.1))) hb); replace HO_11 := aM (Kd.R_below (by (with_reducible repeat (first | apply rA | apply rN | apply rD)); exact (Kd.R_mono (Kd.R_far (p := ⟨gb453, 1, none⟩) (Kd.R_far (p := ⟨gb453, 0, none⟩) (Kd.R_mono HO_11.out (fun k_ hk => (⟨hk, hk.2⟩ : _ ∧ k_ ≠ gb453))) (fun _ hk => hk.2) (.int .i64 ((rd_impl_Peg t446 x13_1).f0))) (fun _ hk => hk.2) (.int .i64 ((rd_impl_Peg t446 x13_1).f1))) (fun _ h_ => h_.1))) hb); replace BK453 := aM (blk_below (g := gb453) (o := .cells #[.int .i64 ((rd_impl_Peg t446 x13_1).f0), .int .i64 ((rd_impl_Peg t446 x13_1).f1)] 26 (0, 0)) (fQ BK453) hb); replace HB := tB HB hb; (try clear hb); (try clear hb2); (try clear hk); (try clear hi)) | ((with_reducible refine gate_dst (N := 6) rfl ?_); refine bV 6 (cs := #[.int .i64 0, .int .i64 0]) (t := 26) rfl rfl (by first | (go_simp; done) | (go_simp; rfl)) ?_; intro gb456 hg w17 hbox hb; have BK456 := hbox; have GW456 := gZ HB hg; have GE456 := gZ HB hg; have NB453_456 := nG BK453 hg; have NB456_453 := nH BK453 hg; replace HO_0 := aM (Kd.R_below (Kd.R_elderB (by (with_reducible repeat (first | apply rA | apply rN | apply rD)); exact HO_0.out) gb456 (Nat.le_of_eq hg.symm)) hb); replace HO_3 := aM (Kd.R_below (Kd.R_elderB (by (with_reducible repeat (first | apply rA | apply rN | apply rD)); exact HO_3.out) gb456 (Nat.le_of_eq hg.symm)) hb); replace HO_11 := aM (Kd.R_below (Kd.R_elderB (by (with_reducible repeat (first | apply rA | apply rN | apply rD)); exact HO_11.out) gb456 (Nat.le_of_eq hg.symm)) hb); replace BK453 := bB BK453 hb; replace HB := tB HB hb; clear hb hbox hg; have hnb18 := NB456_453.out; have hnc18 := NB453_456.out; have hcz19_0 := vZ0 BK456; have hcz19_1 := vZ1 BK456; have hfz19_0 := kF BK456.out 0; have hfz19_1 := kF BK456.out 1; have hcz20_0 := vZ0 BK453; have hcz20_1 := vZ1 BK453; have hfz20_0 := kF BK453.out 0; have hfz20_1 := kF BK453.out 1) | ((with_reducible refine gC (f := 107) rfl ?_); refine goesL_ (some 24) rfl rfl Try.func107 kR rfl #[.agg #[.int .i64 ((rd_impl_Peg t446 x13_1).f0), .int .i64 ((rd_impl_Peg t446 x13_1).f1)], .agg #[.int .i64 t454, .int .i64 t455]] rfl sQ ?_; (with_reducible refine (impl_cross.calls ((rd_impl_Peg t446 x13_1).f0) ((rd_impl_Peg t446 x13_1).f1) t454 t455 t457 _ A11.out).mono ?_); rintro e w21 ⟨rfl, hb⟩; refine ⟨_, rfl, ?_⟩; replace HO_0 := aM (Kd.R_below (by (with_reducible repeat (first | apply rA | apply rN | apply rD)); exact (Kd.R_mono (Kd.R_far (p := ⟨gb456, 1, none⟩) (Kd.R_far (p := ⟨gb456, 0, none⟩) (Kd.R_mono HO_0.out (fun k_ hk => (⟨hk, hk.2⟩ : _ ∧ k_ ≠ gb456))) (fun _ hk => hk.2) (.int .i64 t454)) (fun _ hk => hk.2) (.int .i64 t455)) (fun _ h_ => h_.1))) hb); replace HO_3 := aM (Kd.R_below (by (with_reducible repeat (first | apply rA | apply rN | apply rD)); exact (Kd.R_mono (Kd.R_far (p := ⟨gb456, 1, none⟩) (Kd.R_far (p := ⟨gb456, 0, none⟩) (Kd.R_mono HO_3.out (fun k_ hk => (⟨hk, hk.2⟩ : _ ∧ k_ ≠ gb456))) (fun _ hk => hk.2) (.int .i64 t454)) (fun _ hk => hk.2) (.int .i64 t455)) (fun _ h_ => h_.1))) hb); replace HO_11 := aM (Kd.R_below (by (with_reducible repeat (first | apply rA | apply rN | apply rD)); exact (Kd.R_mono (Kd.R_far (p := ⟨gb456, 1, none⟩) (Kd.R_far (p := ⟨gb456, 0, none⟩) (Kd.R_mono HO_11.out (fun k_ hk => (⟨hk, hk.2⟩ : _ ∧ k_ ≠ gb456))) (fun _ hk => hk.2) (.int .i64 t454)) (fun _ hk => hk.2) (.int .i64 t455)) (fun _ h_ => h_.1))) hb); replace BK453 := aM (blk_below (g := gb453) (o := .cells #[.int .i64 ((rd_impl_Peg t446 x13_1).f0), .int .i64 ((rd_impl_Peg t446 x13_1).f1)] 26 (0, 0)) (fQ BK453) hb); replace BK456 := aM (blk_below (g := gb456) (o := .cells #[.int .i64 t454, .int .i64 t455] 26 (0, 0)) (fQ BK456) hb); replace HB := tB HB hb; (try clear hb); (try clear hb2); (try clear hk); (try clear hi)))
    replace HO_0 := aM (rD HO_0.out); replace HO_3 := aM (rD HO_3.out); replace HO_11 := aM (rD HO_11.out); replace BK453 := aM (kD BK453.out); replace BK456 := aM (kD BK456.out); replace HB := aM (pD HB.out)
    refine start_ (n := 19) (S := fun w' => w'.cell? ⟨gb456, 0, none⟩ = some (.int .i64 t454) ∧ w'.cell? ⟨gb456, 1, none⟩ = some (.int .i64 t455) ∧ w'.cell? ⟨gb453, 0, none⟩ = some (.int .i64 ((rd_impl_Peg t446 x13_1).f0)) ∧ w'.cell? ⟨gb453, 1, none⟩ = some (.int .i64 ((rd_impl_Peg t446 x13_1).f1))) (ds := []) (bA 19 0) kR rfl kR ⟨vZ0 BK456, vZ1 BK456, vZ0 BK453, vZ1 BK453⟩ (fun hHeld => ?_); refine with_tabW impl_dual.tab8 impl_dual.bits8 (fun HT_ HW_ => ?_)
    generalize w21.drew = w22 at HO_0 HO_3 HO_11 BK453 BK456 HB hHeld ⊢
    refine pU 0 25 (bA 19 1) HT_ ?_; refine pU 1 26 (bA 19 3) HT_ ?_; refine pU 3 28 (bA 19 11) HT_ ?_; refine pU 6 31 (bA 19 75) HT_ ?_; refine pU 8 33 (bA 19 331) HT_ ?_; refine pU 10 35 (bA 19 1355) HT_ ?_; refine pU 13 38 (bA 19 9547) HT_ ?_
    refine tU 2 27 (bA 19 9551) HT_ HW_ hHeld ?_ (hy := Or.inl ⟨by rfl, by rintro w' ⟨s0, s1, s2, s3⟩; go_simp; with_reducible rfl⟩)
    refine tU 4 29 (bA 19 9567) HT_ HW_ hHeld ?_ (hy := Or.inl ⟨by rfl, by rintro w' ⟨s0, s1, s2, s3⟩; go_simp; with_reducible rfl⟩)
    refine pU 5 30 (bA 19 9599) HT_ ?_; refine pU 7 32 (bA 19 9727) HT_ ?_
    refine tU 9 34 (bA 19 10239) HT_ HW_ hHeld ?_ (hy := Or.inl ⟨by rfl, by rintro w' ⟨s0, s1, s2, s3⟩; go_simp; with_reducible rfl⟩)
    refine tU 11 36 (bA 19 12287) HT_ HW_ hHeld ?_ (hy := Or.inl ⟨by rfl, by rintro w' ⟨s0, s1, s2, s3⟩; go_simp; with_reducible rfl⟩)
    refine pU 12 37 (bA 19 16383) HT_ ?_; refine pU 14 39 (bA 19 32767) HT_ ?_; refine pU 15 40 (bA 19 65535) HT_ ?_
    refine oU 16 41 (bA 19 131071) HT_ (fun K hK => ?_)
    refine value_ (w1 := ?_) (v := ?_) (by rfl) rfl ?_ ?_
    rotate_left 2
    ·go_simp
     constructor
     ·rfl
     ·rfl
    refine hK.out _ _ ⟨(kC (kA BK456.out _) 0).trans rfl, (kC (kA BK456.out _) 1).trans rfl, (kC (kA BK453.out _) 0).trans rfl, (kC (kA BK453.out _) 1).trans rfl⟩ (fun hHeld => ?_)
    clear hK K
    refine nU ?_
    refine oU 17 42 (bA 19 262143) HT_ (fun K hK => ?_)
    refine Kd.R_append_step kd_impl_Peg (w0 := w) w.heap.size (by rfl) (.tmp 25) (.tmp 41) 29 26 (.agg #[(.int .i64 0), (.int .i64 0)]) 16 rfl Try.underlying29 info26 rfl (by decide) (by omega) u3 x3_1 (⟨wrap64 (Int.tdiv (wrap64 (t455 - ((rd_impl_Peg t446 x13_1).f1))) t457), wrap64 (Int.tdiv (wrap64 (((rd_impl_Peg t446 x13_1).f0) - t454)) t457)⟩ : S_impl_Peg) [.int .i64 (wrap64 (Int.tdiv (wrap64 (t455 - ((rd_impl_Peg t446 x13_1).f1))) t457)), .int .i64 (wrap64 (Int.tdiv (wrap64 (((rd_impl_Peg t446 x13_1).f0) - t454)) t457))] (fun k_ => some k_ ≠ (.slice (some ad452) t446.length co6 : Value).ownBlock ∧ some k_ ≠ (.slice (some ad452) t446.length co6 : Value).ownBlock ∧ k_ ≠ gb453 ∧ k_ ≠ gb456) (fun _ => False) rfl rfl ?aP (fun _ hk => hk.elim) ?aF ?aO ?aB ?aS ?aL ?_
    (case aP => exact kd_impl_Peg_mkM _ _ _ (⟨wrap64 (Int.tdiv (wrap64 (t455 - ((rd_impl_Peg t446 x13_1).f1))) t457), wrap64 (Int.tdiv (wrap64 (((rd_impl_Peg t446 x13_1).f0) - t454)) t457)⟩ : S_impl_Peg))
    (case aB => exact bE)
    (case aF => exact (fun k_ hk => ⟨Kd.fresh' (Kd.R_lt (by (with_reducible repeat (first | apply rA | apply rN | apply rD)); exact HO_0.out)) k_ hk, Kd.fresh' (Kd.R_lt (by (with_reducible repeat (first | apply rA | apply rN | apply rD)); exact HO_11.out)) k_ hk, Kd.freshB (g := gb453) (o := .cells #[.int .i64 ((rd_impl_Peg t446 x13_1).f0), .int .i64 ((rd_impl_Peg t446 x13_1).f1)] 26 (0, 0)) (gQ BK453) k_ hk, Kd.freshB (g := gb456) (o := .cells #[.int .i64 t454, .int .i64 t455] 26 (0, 0)) (gQ BK456) k_ hk⟩))
    (case aO => exact (by (with_reducible repeat (first | apply rA | apply rN | apply rD)); exact Kd.R_mono HO_3.out (fun _ hk => ⟨hk.1.1.1, ⟨hk.1.1.2, ⟨hk.1.2, hk.2⟩⟩⟩)))
    (case aS => exact (pZ bE))
    (case aL => have := LMc13.out; omega)
    intro v459 w23 ho hb hg hat
    rw [← Ny458.out] at ho; have n0_ := aM (Kd.R_after (ok := (fun k_ => k_ ≠ gb453 ∧ k_ ≠ gb456)) (by (with_reducible repeat (first | apply rA | apply rN | apply rD)); exact Kd.R_mono HO_0.out (fun _ hk => ⟨⟨hk.1.2, hk.2⟩, hk.1.1⟩)) hg hat)
    have n1_ := aM (Kd.R_after (ok := (fun k_ => k_ ≠ gb453 ∧ k_ ≠ gb456)) (by (with_reducible repeat (first | apply rA | apply rN | apply rD)); exact Kd.R_mono HO_11.out (fun _ hk => ⟨⟨hk.1.2, hk.2⟩, hk.1.1⟩)) hg hat)
    have n2_ := aM (blk_grown (g := gb453) (o := .cells #[.int .i64 ((rd_impl_Peg t446 x13_1).f0), .int .i64 ((rd_impl_Peg t446 x13_1).f1)] 26 (0, 0)) (gQ BK453) hg (Kd.R_away HO_3.out (fun _ hk => hk.1.2))); have n3_ := aM (blk_grown (g := gb456) (o := .cells #[.int .i64 t454, .int .i64 t455] 26 (0, 0)) (gQ BK456) hg (Kd.R_away HO_3.out (fun _ hk => hk.2))); have n4_ := aM (hb); have n5_ := aM (ho); clear HO_0; clear HO_11; clear BK453; clear BK456; clear HB; clear HO_3; have HO_0 := n0_; have HO_11 := n1_; have BK453 := n2_; have BK456 := n3_; have HB := n4_; have HO460 := n5_; clear n0_ n1_ n2_ n3_ n4_ n5_; clear ho hb hg hat
    refine hK.out _ _ ⟨vZ0 BK456, vZ1 BK456, vZ0 BK453, vZ1 BK453⟩ (fun hHeld => ?_)
    clear hK K
    refine nU ?_
    refine pU 18 3 (bA 19 524287) HT_ ?_
    refine done_ (done_of HT_.out kR) ?_
    try go_wp2
    go_roundg k1
    case measure => have := HK1.out; omega
    case rel => exact ⟨(y458), (wrap64 (x13_1 + 1)), eQ, H', ⟨by have := HK1.out; omega⟩, ⟨by (with_reducible repeat (first | apply rA | apply rN | apply rD)); exact Kd.R_mono HO_0.out (fun _ hk => hk.2)⟩, ⟨by (with_reducible repeat (first | apply rA | apply rN | apply rD)); exact Kd.R_mono HO460.out (fun _ hk => ⟨hk.1, hk.2.1⟩)⟩, ⟨by (with_reducible repeat (first | apply rA | apply rN | apply rD)); exact Kd.R_mono HO_11.out (fun _ hk => hk.2)⟩, ⟨bE⟩⟩
   ·rw [if_neg c7] at H; have c7b0 := decide_eq_false c7; clear c7; replace H := bS H; obtain ⟨t461, A24, H⟩ := H; replace H := bS H; obtain ⟨t462, A25, H⟩ := H; obtain rfl := Option.some.inj H; obtain ⟨Ao26, co26, eo26⟩ := Kd.R_slice HO_3.out; subst eo26
    go_wp2_with (first | ((with_reducible refine gC (f := 123) rfl ?_); refine goesL_ (some 46) rfl rfl Try.func123 kR rfl #[.slice Ao26 x3_1.length co26] rfl sQ ?_; (with_reducible refine (impl_first.calls k1 _ _ x3_1 t461 _ ?side1 ?side2 A24.out).mono ?_); (case side1 => repeat (first | exact (rR HO_3.out).2.2 | (with_reducible refine cA ?_ _) | (with_reducible refine cN ?_ _) | (with_reducible refine cD ?_))); (case side2 => exact (rR HO_3.out).2.1); rintro e w27 ⟨rfl, hb⟩; refine ⟨_, rfl, ?_⟩; replace HO_0 := aM (Kd.R_below (by (with_reducible repeat (first | apply rA | apply rN | apply rD)); exact HO_0.out) hb); replace HO_3 := aM (Kd.R_below (by (with_reducible repeat (first | apply rA | apply rN | apply rD)); exact HO_3.out) hb); replace HO_11 := aM (Kd.R_below (by (with_reducible repeat (first | apply rA | apply rN | apply rD)); exact HO_11.out) hb); replace HB := tB HB hb; (try clear hb); (try clear hb2); (try clear hk); (try clear hi)) | ((with_reducible refine gC (f := 66) rfl ?_); refine goesL_ (some 47) rfl rfl Try.func66 kR rfl #[.slice Ao26 x3_1.length co26, .int .i64 t461, .int .i64 1] rfl sQ ?_; (with_reducible refine (impl_told.calls k1 _ _ x3_1 t461 1 t462 _ ?side1 ?side2 A25.out).mono ?_); (case side1 => repeat (first | exact (rR HO_3.out).2.2 | (with_reducible refine cA ?_ _) | (with_reducible refine cN ?_ _) | (with_reducible refine cD ?_))); (case side2 => exact (rR HO_3.out).2.1); rintro e w28 ⟨v463, rfl, ho0, hb⟩; refine ⟨_, rfl, ?_⟩; have HO464 := aM (Kd.R_lower (Kd.R_new' (Kd.R_new' (Kd.R_new' ho0 (Kd.R_lt (by (with_reducible repeat (first | apply rA | apply rN | apply rD)); exact HO_0.out))) (Kd.R_lt (by (with_reducible repeat (first | apply rA | apply rN | apply rD)); exact HO_3.out))) (Kd.R_lt (by (with_reducible repeat (first | apply rA | apply rN | apply rD)); exact HO_11.out))) (pZ bQ)); replace HO_0 := aM (Kd.R_elder' (by (with_reducible repeat (first | apply rA | apply rN | apply rD)); exact HO_0.out) (Kd.R_base ho0) hb); replace HO_3 := aM (Kd.R_elder' (by (with_reducible repeat (first | apply rA | apply rN | apply rD)); exact HO_3.out) (Kd.R_base ho0) hb); replace HO_11 := aM (Kd.R_elder' (by (with_reducible repeat (first | apply rA | apply rN | apply rD)); exact HO_11.out) (Kd.R_base ho0) hb); replace HB := tB HB hb; (try clear hb); (try clear hb2); (try clear hk); (try clear hi); (try clear ho0)))
    go_ret
    exact ⟨_, by first | rfl | (simp [errW_none, errW_some] <;> rfl) | (simp [*, errW_none, errW_some] <;> rfl), by (with_reducible repeat (first | apply rA | apply rN | apply rD)); exact Kd.R_mono HO464.out (fun _ hk => trivial), bQ⟩

end Go.Proofs.Ytklhakfmegbobaa.X
