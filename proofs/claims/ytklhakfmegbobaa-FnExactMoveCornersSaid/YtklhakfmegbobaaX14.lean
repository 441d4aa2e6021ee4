-- thin
-- short
-- compact
import Derived.Test.YtklhakfmegbobaaXA
import Derived.Test.YtklhakfmegbobaaX0
import Derived.Test.YtklhakfmegbobaaX3
import Derived.Test.YtklhakfmegbobaaX5
import Derived.Test.YtklhakfmegbobaaX6
namespace Go.Proofs.Ytklhakfmegbobaa.X
open Go.RowKit Go.Proofs.Ytklhakfmegbobaa.XW Go.Proofs.YtklhakfmegbobaaW.PrintWords Go.Proofs.YtklhakfmegbobaaW.PrintLast Go.Proofs.YtklhakfmegbobaaW.PrintMore
attribute [local go_sem] max2_int min2_int max_two min_two max_three min_three max_four min_four   -- for this text's walks alone
set_option linter.unusedVariables false
set_option linter.unusedSimpArgs false

def spec_l1All.l0 : Nat → Int → Int → List Int → Int → Int → Option (Bool)
 | 0, _, _, _, _, _ => none
 | k + 1, x1, x2, x9, x10, x11 => if x11 < x10 then (if 0 ≤ x11 then (if x11 < (x9.length : Int) then ((spec_l1In.f (rd x9 x11) x1 x2).bind fun t319 => (if t319 = true then (spec_l1All.l0 k x1 x2 x9 x10 (wrap64 (x11 + 1))) else (some false))) else (none)) else (none)) else (some true)
def spec_l1All.f (k : Nat) (l0 : List Int) (a1 : Int) (a2 : Int) : Option (Bool) := spec_l1All.l0 k a1 a2 l0 (l0.length : Int) 0
theorem spec_l1All.mono_l : ∀ k, (∀ y0 y1 y2 y3 y4, LeO (spec_l1All.l0 k y0 y1 y2 y3 y4) (spec_l1All.l0 (k + 1) y0 y1 y2 y3 y4))
 | 0 => fun _ _ _ _ _ r h => by simp [spec_l1All.l0] at h
 | k + 1 => by
  have ih0 := spec_l1All.mono_l k
  ·intro y0 y1 y2 y3 y4
   unfold spec_l1All.l0
   repeat' first
   | (with_reducible exact ih0 _ _ _ _ _)
   | (with_reducible exact LeO.refl _)
   | (with_reducible exact LeO.none _)
   | (with_reducible refine LeO.ite ?_ ?_)
   | (with_reducible refine LeO.bind ?_ (fun _ => ?_))
   | exact ih0 _ _ _ _ _
   | exact LeO.none _
   | refine LeO.ite ?_ ?_
   | refine LeO.bind ?_ (fun _ => ?_)
theorem spec_l1All.mono : ∀ a0 a1 a2 k, LeO (spec_l1All.f k a0 a1 a2) (spec_l1All.f (k + 1) a0 a1 a2) := by
 intro a0 a1 a2 k
 have ih0 := spec_l1All.mono_l k
 unfold spec_l1All.f
 repeat' first | (with_reducible exact ih0 _ _ _ _ _) | (with_reducible exact LeO.refl _) | (with_reducible exact LeO.none _) | (with_reducible refine LeO.ite ?_ ?_) | (with_reducible refine LeO.bind ?_ (fun _ => ?_)) | exact ih0 _ _ _ _ _ | exact LeO.none _ | refine LeO.ite ?_ ?_ | refine LeO.bind ?_ (fun _ => ?_)
set_option maxHeartbeats 8000000 in
set_option maxRecDepth 100000 in
theorem spec_l1All.calls (k : Nat) (A0 : Option Addr) (c0 : Nat) (l0 : List Int) (a1 : Int) (a2 : Int) (r : Bool) (w : World) (hr0 : Kd.C (Kd.int .i64) w A0 l0.length l0) (hc0 : l0.length ≤ c0) (h : spec_l1All.f k l0 a1 a2 = some r) :
  Calls Try.prog 55 #[.slice A0 l0.length c0, .int .i64 a1, .int .i64 a2] w fun e w' => e = .returned (.bool r) ∧ Drawn0 w w' := by
 have HR0 := aM hr0; have HC0 := aM hc0; clear hr0 hc0
 unfold spec_l1All.f at h; have H := h; clear h
 have H' := aM H; clear H
 go_enter Try.func55, Try.ntmps55
 go_wp2
 go_loopg [11] k (fun kq v11 w' => ∃ (x11_1 : Int), v11 = .int .i64 x11_1 ∧ Aside0 (spec_l1All.l0 kq a1 a2 l0 (l0.length : Int) x11_1 = some r) ∧ Aside0 (kq ≤ k) ∧ Drawn0 w w')
 case atStart => exact ⟨(0), eQ, H', ⟨Nat.le_refl _⟩, dQ⟩
 case round =>
  clear H'; obtain ⟨x11_1, rfl, HA, HK1, ⟨m1, rfl⟩⟩ := hrel
  cases gk with
  | zero => exact absurd HA.out (by simp [spec_l1All.l0])
  | succ k1 =>
   have H := HA.out; clear HA
   simp only [spec_l1All.l0] at H
   by_cases c4 : x11_1 < (l0.length : Int)
   ·rw [if_pos c4] at H; have c4b0 := dE c4; clear c4; replace H := iD H; obtain ⟨c5b0, H⟩ := H; replace H := iD H; obtain ⟨c6b0, H⟩ := H; replace H := bS H; obtain ⟨t319, A7, H⟩ := H
    by_cases c8 : t319 = true
    ·subst c8; replace H := iT H; have H' := aM H; clear H; have p318 : 0 ≤ (x11_1 : Int) := dT aQ; have q318 : x11_1 < (l0.length : Int) := dT aQ; obtain ⟨ad318, e318, hx318_0⟩ := Kd.at_int HR0.out x11_1 p318 q318
     cases e318
     replace p318 := eq_true p318; replace q318 := eq_true q318
     go_wp2_with (first | ((with_reducible refine gC (f := 79) rfl ?_); refine goesL_ (some 18) rfl rfl Try.func79 kR rfl #[.int .i64 (rd l0 x11_1), .int .i64 a1, .int .i64 a2] rfl sQ ?_; (with_reducible refine (spec_l1In.calls (rd l0 x11_1) a1 a2 true _ A7.out).mono ?_); rintro e w' ⟨rfl, ⟨nd, rfl⟩⟩; refine ⟨_, rfl, ?_⟩))
     go_roundg k1
     case measure => have := HK1.out; omega
     case rel => exact ⟨(wrap64 (x11_1 + 1)), eQ, H', ⟨by have := HK1.out; omega⟩, dQ⟩
    ·replace c8 := Bool.eq_false_iff.mpr c8; subst c8; replace H := iF H; obtain rfl := Option.some.inj H; have p318 : 0 ≤ (x11_1 : Int) := dT aQ; have q318 : x11_1 < (l0.length : Int) := dT aQ; obtain ⟨ad318, e318, hx318_0⟩ := Kd.at_int HR0.out x11_1 p318 q318
     cases e318
     replace p318 := eq_true p318; replace q318 := eq_true q318
     go_wp2_with (first | ((with_reducible refine gC (f := 79) rfl ?_); refine goesL_ (some 18) rfl rfl Try.func79 kR rfl #[.int .i64 (rd l0 x11_1), .int .i64 a1, .int .i64 a2] rfl sQ ?_; (with_reducible refine (spec_l1In.calls (rd l0 x11_1) a1 a2 false _ A7.out).mono ?_); rintro e w' ⟨rfl, ⟨nd, rfl⟩⟩; refine ⟨_, rfl, ?_⟩))
     go_ret
     exact ⟨eQ, dQ⟩
   ·rw [if_neg c4] at H; have c4b0 := decide_eq_false c4; clear c4; obtain rfl := Option.some.inj H; go_wp2
    go_ret
    exact ⟨eQ, dQ⟩

def spec_l1Most.f (a0 : Int) (a1 : Int) : Option (Int) := if a0 > a1 then (some a0) else (some a1)
set_option maxHeartbeats 8000000 in
set_option maxRecDepth 100000 in
theorem spec_l1Most.calls (a0 : Int) (a1 : Int) (r : Int) (w : World) (h : spec_l1Most.f a0 a1 = some r) :
  Calls Try.prog 141 #[.int .i64 a0, .int .i64 a1] w fun e w' => e = .returned (.int .i64 r) ∧ Drawn0 w w' := by
 unfold spec_l1Most.f at h; have H := h; clear h
 by_cases c3 : a0 > a1
 ·rw [if_pos c3] at H; have c3b0 := dE c3; clear c3; obtain rfl := Option.some.inj H
  go_enter Try.func141, Try.ntmps141
  go_wp2
  go_ret
  exact ⟨eQ, dQ⟩
 ·rw [if_neg c3] at H; have c3b0 := decide_eq_false c3; clear c3; obtain rfl := Option.some.inj H
  go_enter Try.func141, Try.ntmps141
  go_wp2
  go_ret
  exact ⟨eQ, dQ⟩

def spec_l1Abs.f (a0 : Int) : Option (Int) := (spec_l1Most.f a0 (wrap64 (-a0))).bind fun t320 => (some t320)
set_option maxHeartbeats 8000000 in
set_option maxRecDepth 100000 in
theorem spec_l1Abs.calls (a0 : Int) (r : Int) (w : World) (h : spec_l1Abs.f a0 = some r) :
  Calls Try.prog 127 #[.int .i64 a0] w fun e w' => e = .returned (.int .i64 r) ∧ Drawn0 w w' := by
 unfold spec_l1Abs.f at h; have H := h; clear h
 replace H := bS H; obtain ⟨t320, A2, H⟩ := H; obtain rfl := Option.some.inj H
 go_enter Try.func127, Try.ntmps127
 go_wp2_with (first | ((with_reducible refine gC (f := 141) rfl ?_); refine goesL_ (some 6) rfl rfl Try.func141 kR rfl #[.int .i64 a0, .int .i64 (wrap64 (-a0))] rfl sQ ?_; (with_reducible refine (spec_l1Most.calls a0 (wrap64 (-a0)) t320 _ A2.out).mono ?_); rintro e w' ⟨rfl, ⟨nd, rfl⟩⟩; refine ⟨_, rfl, ?_⟩))
 go_ret
 exact ⟨eQ, dQ⟩

def spec_mvGood.f (k : Nat) (a0_0 : Int) (a0_1 : Int) (a0_2 : Int) (a0_3 : Int) (a0_4 : Int) (a0_5 : Int) : Option (Bool) := (spec_l1All.f k (([a0_0, a0_1, a0_2, a0_3] : List Int)) (-20) 20).bind fun t325 => (if t325 = true then ((spec_l1All.f k (([a0_4, a0_5] : List Int)) (-80) 80).bind fun t329 => (if t329 = true then ((spec_l1Abs.f (wrap64 ((wrap64 (a0_0 * a0_3)) - (wrap64 (a0_1 * a0_2))))).bind fun t330 => (some (t330 == 1))) else (some false))) else (some false))
theorem spec_mvGood.mono : ∀ a0 a1 a2 a3 a4 a5 k, LeO (spec_mvGood.f k a0 a1 a2 a3 a4 a5) (spec_mvGood.f (k + 1) a0 a1 a2 a3 a4 a5) := by
 intro a0 a1 a2 a3 a4 a5 k
 unfold spec_mvGood.f
 repeat' first | (with_reducible exact spec_l1All.mono _ _ _ _) | (with_reducible exact LeO.refl _) | (with_reducible exact LeO.none _) | (with_reducible refine LeO.ite ?_ ?_) | (with_reducible refine LeO.bind ?_ (fun _ => ?_)) | exact spec_l1All.mono _ _ _ _ | exact LeO.none _ | refine LeO.ite ?_ ?_ | refine LeO.bind ?_ (fun _ => ?_)
set_option maxHeartbeats 8000000 in
set_option maxRecDepth 100000 in
theorem spec_mvGood.calls (k : Nat) (a0_0 : Int) (a0_1 : Int) (a0_2 : Int) (a0_3 : Int) (a0_4 : Int) (a0_5 : Int) (r : Bool) (w : World) (h : spec_mvGood.f k a0_0 a0_1 a0_2 a0_3 a0_4 a0_5 = some r) :
  Calls Try.prog 86 #[.agg #[.int .i64 a0_0, .int .i64 a0_1, .int .i64 a0_2, .int .i64 a0_3, .int .i64 a0_4, .int .i64 a0_5]] w fun e w' => e = .returned (.bool r) ∧ Below w.heap.size w w' := by
 have hu52 := Try.underlying52; have HB := aM (Below.refl w.heap.size w)
 unfold spec_mvGood.f at h; have H := h; clear h
 obtain ⟨y322, hy322⟩ : ∃ y_ : List Int, y_ = (([a0_0, a0_1, a0_2, a0_3] : List Int)) := ⟨_, rfl⟩; rw [← hy322] at H; have Ny322 := aM hy322; clear hy322; replace H := bS H; obtain ⟨t325, A2, H⟩ := H
 by_cases c3 : t325 = true
 ·subst c3; replace H := iT H; obtain ⟨y326, hy326⟩ : ∃ y_ : List Int, y_ = (([a0_4, a0_5] : List Int)) := ⟨_, rfl⟩; rw [← hy326] at H; have Ny326 := aM hy326; clear hy326; replace H := bS H; obtain ⟨t329, A4, H⟩ := H
  by_cases c5 : t329 = true
  ·subst c5; replace H := iT H; replace H := bS H; obtain ⟨t330, A6, H⟩ := H; obtain rfl := Option.some.inj H
   go_enter Try.func86, Try.ntmps86
   go_wp2_with (first | ((with_reducible refine gate_dst (N := 1) rfl ?_); (try (refine gate_guard (by rfl) ?_; dsimp only)); refine bV 1 (cs := #[.int .i64 a0_0, .int .i64 a0_1, .int .i64 a0_2, .int .i64 a0_3, .int .i64 a0_4, .int .i64 a0_5]) (t := 52) rfl rfl (by first | (go_simp; done) | (go_simp; rfl)) ?_; intro gb321 hg w7 hbox hb; have BK321 := hbox; have GW321 := gZ HB hg; have GE321 := gZ HB hg; replace HB := tB HB hb; clear hb hbox hg; have hcz8_0 := vZ0 BK321; have hcz8_1 := vZ1 BK321; have hcz8_2 := vZ2 BK321; have hcz8_3 := vZ3 BK321; have hcz8_4 := vZ4 BK321; have hcz8_5 := vZ5 BK321; have hfz8_0 := kF BK321.out 0; have hfz8_1 := kF BK321.out 1; have hfz8_2 := kF BK321.out 2; have hfz8_3 := kF BK321.out 3; have hfz8_4 := kF BK321.out 4; have hfz8_5 := kF BK321.out 5) | ((with_reducible refine gate_dst (N := 11) rfl ?_); (try (refine gate_guard (by rfl) ?_; dsimp only)); refine Kd.R_lit (Kd.int .i64) _ 3 ?hg (N := 11) ?hd (xs := ([a0_0, a0_1, a0_2, a0_3] : List Int)) (inner := [.int .i64 a0_0, .int .i64 a0_1, .int .i64 a0_2, .int .i64 a0_3]) (ok := fun _ => True) (okp := fun _ => True) ?hr ?hp (fun _ hk => hk) trivial (Below.refl _ _) (Nat.le_refl _) (by simp) ?_; (case hd => rfl); (case hg => rfl); (case hr => first | (go_simp; done) | (go_simp; rfl)); (case hp => exact (Reps.one (show Kd.M (Kd.int .i64) _ _ _ a0_0 [.int .i64 a0_0] from rfl) (Reps.one (show Kd.M (Kd.int .i64) _ _ _ a0_1 [.int .i64 a0_1] from rfl) (Reps.one (show Kd.M (Kd.int .i64) _ _ _ a0_2 [.int .i64 a0_2] from rfl) (Reps.one (show Kd.M (Kd.int .i64) _ _ _ a0_3 [.int .i64 a0_3] from rfl) (Reps.none _ _)))))); intro v323 w9 ho10 hb hg_ hnew_; clear hg_ hnew_; (first | rw [← Ny322.out] at ho10 | (simp only [Int.reduceToNat] at ho10; rw [← Ny322.out] at ho10)); have HO324 := aM (Kd.R_lower ho10 (pZ bE)); replace BK321 := bB BK321 hb; replace HB := tB HB hb; clear hb ho10; obtain ⟨Ao11, co11, eo11⟩ := Kd.R_slice HO324.out; subst eo11) | ((with_reducible refine gC (f := 55) rfl ?_); refine goesL_ (some 12) rfl rfl Try.func55 kR rfl #[.slice Ao11 y322.length co11, .int .i64 (-20), .int .i64 20] rfl sQ ?_; (with_reducible refine (spec_l1All.calls k _ _ y322 (-20) 20 true _ ?side1 ?side2 A2.out).mono ?_); (case side1 => repeat (first | exact (rR HO324.out).2.2 | (with_reducible refine cA ?_ _) | (with_reducible refine cN ?_ _) | (with_reducible refine cD ?_))); (case side2 => exact (rR HO324.out).2.1); rintro e w' ⟨rfl, ⟨nd, rfl⟩⟩; refine ⟨_, rfl, ?_⟩; have hcz12_0 := vZ0 BK321; have hcz12_1 := vZ1 BK321; have hcz12_2 := vZ2 BK321; have hcz12_3 := vZ3 BK321; have hcz12_4 := vZ4 BK321; have hcz12_5 := vZ5 BK321; have hfz12_0 := kF BK321.out 0; have hfz12_1 := kF BK321.out 1; have hfz12_2 := kF BK321.out 2; have hfz12_3 := kF BK321.out 3; have hfz12_4 := kF BK321.out 4; have hfz12_5 := kF BK321.out 5) | ((with_reducible refine gate_dst (N := 18) rfl ?_); (try (refine gate_guard (by rfl) ?_; dsimp only)); refine Kd.R_lit (Kd.int .i64) _ 3 ?hg (N := 18) ?hd (xs := ([a0_4, a0_5] : List Int)) (inner := [.int .i64 a0_4, .int .i64 a0_5]) (ok := fun _ => True) (okp := fun _ => True) ?hr ?hp (fun _ hk => hk) trivial (Below.refl _ _) (Nat.le_refl _) (by simp) ?_; (case hd => rfl); (case hg => rfl); (case hr => first | (go_simp; done) | (go_simp; rfl)); (case hp => exact (Reps.one (show Kd.M (Kd.int .i64) _ _ _ a0_4 [.int .i64 a0_4] from rfl) (Reps.one (show Kd.M (Kd.int .i64) _ _ _ a0_5 [.int .i64 a0_5] from rfl) (Reps.none _ _)))); intro v327 w13 ho14 hb hg_ hnew_; clear hg_ hnew_; (first | rw [← Ny326.out] at ho14 | (simp only [Int.reduceToNat] at ho14; rw [← Ny326.out] at ho14)); have HO328 := aM (Kd.R_lower (Kd.R_new' ho14 (Kd.R_lt (by (with_reducible repeat (first | apply rA | apply rN | apply rD)); exact HO324.out))) (pZ bE)); replace HO324 := aM (Kd.R_elder' (by (with_reducible repeat (first | apply rA | apply rN | apply rD)); exact HO324.out) (Kd.R_base ho14) hb); replace BK321 := bB BK321 hb; replace HB := tB HB hb; clear hb ho14; obtain ⟨Ao15, co15, eo15⟩ := Kd.R_slice HO328.out; subst eo15) | (go_at_call 55; (with_reducible refine (spec_l1All.calls k _ _ y326 (-80) 80 true _ ?side1 ?side2 A4.out).mono ?_); (case side1 => repeat (first | exact (rR HO328.out).2.2 | (with_reducible refine cA ?_ _) | (with_reducible refine cN ?_ _) | (with_reducible refine cD ?_))); (case side2 => exact (rR HO328.out).2.1); rintro e w' ⟨rfl, ⟨nd, rfl⟩⟩; have hcz16_0 := vZ0 BK321; have hcz16_1 := vZ1 BK321; have hcz16_2 := vZ2 BK321; have hcz16_3 := vZ3 BK321; have hcz16_4 := vZ4 BK321; have hcz16_5 := vZ5 BK321; have hfz16_0 := kF BK321.out 0; have hfz16_1 := kF BK321.out 1; have hfz16_2 := kF BK321.out 2; have hfz16_3 := kF BK321.out 3; have hfz16_4 := kF BK321.out 4; have hfz16_5 := kF BK321.out 5) | (go_at_call 127; (with_reducible refine (spec_l1Abs.calls (wrap64 ((wrap64 (a0_0 * a0_3)) - (wrap64 (a0_1 * a0_2)))) t330 _ A6.out).mono ?_); rintro e w' ⟨rfl, ⟨nd, rfl⟩⟩))
   go_ret
   exact ⟨wQ, bE⟩
  ·replace c5 := Bool.eq_false_iff.mpr c5; subst c5; replace H := iF H; obtain rfl := Option.some.inj H
   go_enter Try.func86, Try.ntmps86
   go_wp2_with (first | ((with_reducible refine gate_dst (N := 1) rfl ?_); (try (refine gate_guard (by rfl) ?_; dsimp only)); refine bV 1 (cs := #[.int .i64 a0_0, .int .i64 a0_1, .int .i64 a0_2, .int .i64 a0_3, .int .i64 a0_4, .int .i64 a0_5]) (t := 52) rfl rfl (by first | (go_simp; done) | (go_simp; rfl)) ?_; intro gb321 hg w17 hbox hb; have BK321 := hbox; have GW321 := gZ HB hg; have GE321 := gZ HB hg; replace HB := tB HB hb; clear hb hbox hg; have hcz18_0 := vZ0 BK321; have hcz18_1 := vZ1 BK321; have hcz18_2 := vZ2 BK321; have hcz18_3 := vZ3 BK321; have hcz18_4 := vZ4 BK321; have hcz18_5 := vZ5 BK321; have hfz18_0 := kF BK321.out 0; have hfz18_1 := kF BK321.out 1; have hfz18_2 := kF BK321.out 2; have hfz18_3 := kF BK321.out 3; have hfz18_4 := kF BK321.out 4; have hfz18_5 := kF BK321.out 5) | ((with_reducible refine gate_dst (N := 11) rfl ?_); (try (refine gate_guard (by rfl) ?_; dsimp only)); refine Kd.R_lit (Kd.int .i64) _ 3 ?hg (N := 11) ?hd (xs := ([a0_0, a0_1, a0_2, a0_3] : List Int)) (inner := [.int .i64 a0_0, .int .i64 a0_1, .int .i64 a0_2, .int .i64 a0_3]) (ok := fun _ => True) (okp := fun _ => True) ?hr ?hp (fun _ hk => hk) trivial (Below.refl _ _) (Nat.le_refl _) (by simp) ?_; (case hd => rfl); (case hg => rfl); (case hr => first | (go_simp; done) | (go_simp; rfl)); (case hp => exact (Reps.one (show Kd.M (Kd.int .i64) _ _ _ a0_0 [.int .i64 a0_0] from rfl) (Reps.one (show Kd.M (Kd.int .i64) _ _ _ a0_1 [.int .i64 a0_1] from rfl) (Reps.one (show Kd.M (Kd.int .i64) _ _ _ a0_2 [.int .i64 a0_2] from rfl) (Reps.one (show Kd.M (Kd.int .i64) _ _ _ a0_3 [.int .i64 a0_3] from rfl) (Reps.none _ _)))))); intro v323 w19 ho20 hb hg_ hnew_; clear hg_ hnew_; (first | rw [← Ny322.out] at ho20 | (simp only [Int.reduceToNat] at ho20; rw [← Ny322.out] at ho20)); have HO324 := aM (Kd.R_lower ho20 (pZ bE)); replace BK321 := bB BK321 hb; replace HB := tB HB hb; clear hb ho20; obtain ⟨Ao21, co21, eo21⟩ := Kd.R_slice HO324.out; subst eo21) | ((with_reducible refine gC (f := 55) rfl ?_); refine goesL_ (some 12) rfl rfl Try.func55 kR rfl #[.slice Ao21 y322.length co21, .int .i64 (-20), .int .i64 20] rfl sQ ?_; (with_reducible refine (spec_l1All.calls k _ _ y322 (-20) 20 true _ ?side1 ?side2 A2.out).mono ?_); (case side1 => repeat (first | exact (rR HO324.out).2.2 | (with_reducible refine cA ?_ _) | (with_reducible refine cN ?_ _) | (with_reducible refine cD ?_))); (case side2 => exact (rR HO324.out).2.1); rintro e w' ⟨rfl, ⟨nd, rfl⟩⟩; refine ⟨_, rfl, ?_⟩; have hcz22_0 := vZ0 BK321; have hcz22_1 := vZ1 BK321; have hcz22_2 := vZ2 BK321; have hcz22_3 := vZ3 BK321; have hcz22_4 := vZ4 BK321; have hcz22_5 := vZ5 BK321; have hfz22_0 := kF BK321.out 0; have hfz22_1 := kF BK321.out 1; have hfz22_2 := kF BK321.out 2; have hfz22_3 := kF BK321.out 3; have hfz22_4 := kF BK321.out 4; have hfz22_5 := kF BK321.out 5) | ((with_reducible refine gate_dst (N := 18) rfl ?_); (try (refine gate_guard (by rfl) ?_; dsimp only)); refine Kd.R_lit (Kd.int .i64) _ 3 ?hg (N := 18) ?hd (xs := ([a0_4, a0_5] : List Int)) (inner := [.int .i64 a0_4, .int .i64 a0_5]) (ok := fun _ => True) (okp := fun _ => True) ?hr ?hp (fun _ hk => hk) trivial (Below.refl _ _) (Nat.le_refl _) (by simp) ?_; (case hd => rfl); (case hg => rfl); (case hr => first | (go_simp; done) | (go_simp; rfl)); (case hp => exact (Reps.one (show Kd.M (Kd.int .i64) _ _ _ a0_4 [.int .i64 a0_4] from rfl) (Reps.one (show Kd.M (Kd.int .i64) _ _ _ a0_5 [.int .i64 a0_5] from rfl) (Reps.none _ _)))); intro v327 w23 ho24 hb hg_ hnew_; clear hg_ hnew_; (first | rw [← Ny326.out] at ho24 | (simp only [Int.reduceToNat] at ho24; rw [← Ny326.out] at ho24)); have HO328 := aM (Kd.R_lower (Kd.R_new' ho24 (Kd.R_lt (by (with_reducible repeat (first | apply rA | apply rN | apply rD)); exact HO324.out))) (pZ bE)); replace HO324 := aM (Kd.R_elder' (by (with_reducible repeat (first | apply rA | apply rN | apply rD)); exact HO324.out) (Kd.R_base ho24) hb); replace BK321 := bB BK321 hb; replace HB := tB HB hb; clear hb ho24; obtain ⟨Ao25, co25, eo25⟩ := Kd.R_slice HO328.out; subst eo25) | (go_at_call 55; (with_reducible refine (spec_l1All.calls k _ _ y326 (-80) 80 false _ ?side1 ?side2 A4.out).mono ?_); (case side1 => repeat (first | exact (rR HO328.out).2.2 | (with_reducible refine cA ?_ _) | (with_reducible refine cN ?_ _) | (with_reducible refine cD ?_))); (case side2 => exact (rR HO328.out).2.1); rintro e w' ⟨rfl, ⟨nd, rfl⟩⟩))
   go_ret
   exact ⟨wQ, bE⟩
 ·replace c3 := Bool.eq_false_iff.mpr c3; subst c3; replace H := iF H; obtain rfl := Option.some.inj H
  go_enter Try.func86, Try.ntmps86
  go_wp2_with (first | ((with_reducible refine gate_dst (N := 1) rfl ?_); (try (refine gate_guard (by rfl) ?_; dsimp only)); refine bV 1 (cs := #[.int .i64 a0_0, .int .i64 a0_1, .int .i64 a0_2, .int .i64 a0_3, .int .i64 a0_4, .int .i64 a0_5]) (t := 52) rfl rfl (by first | (go_simp; done) | (go_simp; rfl)) ?_; intro gb321 hg w26 hbox hb; have BK321 := hbox; have GW321 := gZ HB hg; have GE321 := gZ HB hg; replace HB := tB HB hb; clear hb hbox hg; have hcz27_0 := vZ0 BK321; have hcz27_1 := vZ1 BK321; have hcz27_2 := vZ2 BK321; have hcz27_3 := vZ3 BK321; have hcz27_4 := vZ4 BK321; have hcz27_5 := vZ5 BK321; have hfz27_0 := kF BK321.out 0; have hfz27_1 := kF BK321.out 1; have hfz27_2 := kF BK321.out 2; have hfz27_3 := kF BK321.out 3; have hfz27_4 := kF BK321.out 4; have hfz27_5 := kF BK321.out 5) | ((with_reducible refine gate_dst (N := 11) rfl ?_); (try (refine gate_guard (by rfl) ?_; dsimp only)); refine Kd.R_lit (Kd.int .i64) _ 3 ?hg (N := 11) ?hd (xs := ([a0_0, a0_1, a0_2, a0_3] : List Int)) (inner := [.int .i64 a0_0, .int .i64 a0_1, .int .i64 a0_2, .int .i64 a0_3]) (ok := fun _ => True) (okp := fun _ => True) ?hr ?hp (fun _ hk => hk) trivial (Below.refl _ _) (Nat.le_refl _) (by simp) ?_; (case hd => rfl); (case hg => rfl); (case hr => first | (go_simp; done) | (go_simp; rfl)); (case hp => exact (Reps.one (show Kd.M (Kd.int .i64) _ _ _ a0_0 [.int .i64 a0_0] from rfl) (Reps.one (show Kd.M (Kd.int .i64) _ _ _ a0_1 [.int .i64 a0_1] from rfl) (Reps.one (show Kd.M (Kd.int .i64) _ _ _ a0_2 [.int .i64 a0_2] from rfl) (Reps.one (show Kd.M (Kd.int .i64) _ _ _ a0_3 [.int .i64 a0_3] from rfl) (Reps.none _ _)))))); intro v323 w28 ho29 hb hg_ hnew_; clear hg_ hnew_; (first | rw [← Ny322.out] at ho29 | (simp only [Int.reduceToNat] at ho29; rw [← Ny322.out] at ho29)); have HO324 := aM (Kd.R_lower ho29 (pZ bE)); replace BK321 := bB BK321 hb; replace HB := tB HB hb; clear hb ho29; obtain ⟨Ao30, co30, eo30⟩ := Kd.R_slice HO324.out; subst eo30) | ((with_reducible refine gC (f := 55) rfl ?_); refine goesL_ (some 12) rfl rfl Try.func55 kR rfl #[.slice Ao30 y322.length co30, .int .i64 (-20), .int .i64 20] rfl sQ ?_; (with_reducible refine (spec_l1All.calls k _ _ y322 (-20) 20 false _ ?side1 ?side2 A2.out).mono ?_); (case side1 => repeat (first | exact (rR HO324.out).2.2 | (with_reducible refine cA ?_ _) | (with_reducible refine cN ?_ _) | (with_reducible refine cD ?_))); (case side2 => exact (rR HO324.out).2.1); rintro e w' ⟨rfl, ⟨nd, rfl⟩⟩; refine ⟨_, rfl, ?_⟩))
  go_ret
  exact ⟨wQ, bE⟩

def spec_MoveCorners.f (k : Nat) (a0_0 : Int) (a0_1 : Int) (a0_2 : Int) (a0_3 : Int) (a0_4 : Int) (a0_5 : Int) (l1 : List (S_impl_Peg)) : Option ((List (S_impl_Peg)) × Bool) := (spec_mvGood.f k a0_0 a0_1 a0_2 a0_3 a0_4 a0_5).bind fun t332 => (if t332 = true then ((spec_pgGood.f k l1).bind fun t333 => (if t333 = true then ((spec_pgMap.f k l1 a0_0 a0_1 a0_2 a0_3 a0_4 a0_5).bind fun bt334 => (some (bt334.1, bt334.2))) else (some (([] : List (S_impl_Peg)), false)))) else (some (([] : List (S_impl_Peg)), false)))
theorem spec_MoveCorners.mono : ∀ a0 a1 a2 a3 a4 a5 a6 k, LeO (spec_MoveCorners.f k a0 a1 a2 a3 a4 a5 a6) (spec_MoveCorners.f (k + 1) a0 a1 a2 a3 a4 a5 a6) := by
 intro a0 a1 a2 a3 a4 a5 a6 k
 unfold spec_MoveCorners.f
 repeat' first | (with_reducible exact spec_mvGood.mono _ _ _ _ _ _ _) | (with_reducible exact spec_pgGood.mono _ _) | (with_reducible exact spec_pgMap.mono _ _ _ _ _ _ _ _) | (with_reducible exact LeO.refl _) | (with_reducible exact LeO.none _) | (with_reducible refine LeO.ite ?_ ?_) | (with_reducible refine LeO.bind ?_ (fun _ => ?_)) | exact spec_mvGood.mono _ _ _ _ _ _ _ | exact spec_pgGood.mono _ _ | exact spec_pgMap.mono _ _ _ _ _ _ _ _ | exact LeO.none _ | refine LeO.ite ?_ ?_ | refine LeO.bind ?_ (fun _ => ?_)
set_option maxHeartbeats 8000000 in
set_option maxRecDepth 100000 in
theorem spec_MoveCorners.calls (k : Nat) (a0_0 : Int) (a0_1 : Int) (a0_2 : Int) (a0_3 : Int) (a0_4 : Int) (a0_5 : Int) (A1 : Option Addr) (c1 : Nat) (l1 : List (S_impl_Peg)) (r1 : List (S_impl_Peg)) (r2 : Bool) (w : World) (hr1 : Kd.C kd_impl_Peg w A1 l1.length l1) (hc1 : l1.length ≤ c1) (h : spec_MoveCorners.f k a0_0 a0_1 a0_2 a0_3 a0_4 a0_5 l1 = some (r1, r2)) :
  Calls Try.prog 38 #[.agg #[.int .i64 a0_0, .int .i64 a0_1, .int .i64 a0_2, .int .i64 a0_3, .int .i64 a0_4, .int .i64 a0_5], .slice A1 l1.length c1] w fun e w' => ∃ v0_ : Value, e = .returned (.tuple #[v0_, .bool r2]) ∧ Kd.R kd_impl_Peg 26 w' w.heap.size (fun _ => True) v0_ r1 ∧ Below w.heap.size w w' := by
 have hu52 := Try.underlying52; have HR1 := aM hr1; have HC1 := aM hc1; clear hr1 hc1; have HB := aM (Below.refl w.heap.size w)
 unfold spec_MoveCorners.f at h; have H := h; clear h
 replace H := bS H; obtain ⟨t332, A3, H⟩ := H
 by_cases c4 : t332 = true
 ·subst c4; replace H := iT H; replace H := bS H; obtain ⟨t333, A5, H⟩ := H
  by_cases c6 : t333 = true
  ·subst c6; replace H := iT H; replace H := bS H; obtain ⟨⟨t334, t335⟩, A7, H⟩ := H
   simp only [Option.some.injEq, Prod.mk.injEq] at H
   obtain ⟨rfl, rfl⟩ := H
   go_enter Try.func38, Try.ntmps38
   go_wp2_with (first | ((with_reducible refine gate_dst (N := 2) rfl ?_); refine bV 2 (cs := #[.int .i64 a0_0, .int .i64 a0_1, .int .i64 a0_2, .int .i64 a0_3, .int .i64 a0_4, .int .i64 a0_5]) (t := 52) rfl rfl (by first | (go_simp; done) | (go_simp; rfl)) ?_; intro gb331 hg w8 hbox hb; have BK331 := hbox; have GW331 := gZ HB hg; have GE331 := gZ HB hg; replace HB := tB HB hb; clear hb hbox hg; have hcz9_0 := vZ0 BK331; have hcz9_1 := vZ1 BK331; have hcz9_2 := vZ2 BK331; have hcz9_3 := vZ3 BK331; have hcz9_4 := vZ4 BK331; have hcz9_5 := vZ5 BK331; have hfz9_0 := kF BK331.out 0; have hfz9_1 := kF BK331.out 1; have hfz9_2 := kF BK331.out 2; have hfz9_3 := kF BK331.out 3; have hfz9_4 := kF BK331.out 4; have hfz9_5 := kF BK331.out 5) | ((with_reducible refine gC (f := 86) rfl ?_); refine goesL_ (some 7) rfl rfl Try.func86 kR rfl #[.agg #[.int .i64 a0_0, .int .i64 a0_1, .int .i64 a0_2, .int .i64 a0_3, .int .i64 a0_4, .int .i64 a0_5]] rfl sQ ?_; (with_reducible refine (spec_mvGood.calls k a0_0 a0_1 a0_2 a0_3 a0_4 a0_5 true _ A3.out).mono ?_); rintro e w10 ⟨rfl, hb⟩; refine ⟨_, rfl, ?_⟩; replace BK331 := bB BK331 hb; replace HB := tB HB hb; (try clear hb); (try clear hb2); (try clear hk); (try clear hi)) | (go_at_call 63; (with_reducible refine (spec_pgGood.calls k _ _ l1 true _ ?side1 ?side2 A5.out).mono ?_); (case side1 => repeat (first | exact (Kd.C_below HR1.out HB.out) | (with_reducible refine cA ?_ _) | (with_reducible refine cN ?_ _) | (with_reducible refine cD ?_))); (case side2 => exact HC1.out); rintro e w11 ⟨rfl, hb⟩; replace BK331 := bB BK331 hb; replace HB := tB HB hb; (try clear hb); (try clear hb2); (try clear hk); (try clear hi); have hcz12_0 := vZ0 BK331; have hcz12_1 := vZ1 BK331; have hcz12_2 := vZ2 BK331; have hcz12_3 := vZ3 BK331; have hcz12_4 := vZ4 BK331; have hcz12_5 := vZ5 BK331; have hfz12_0 := kF BK331.out 0; have hfz12_1 := kF BK331.out 1; have hfz12_2 := kF BK331.out 2; have hfz12_3 := kF BK331.out 3; have hfz12_4 := kF BK331.out 4; have hfz12_5 := kF BK331.out 5) | ((with_reducible refine gC (f := 80) rfl ?_); refine goesL_ (some 27) rfl rfl Try.func80 kR rfl #[.slice A1 l1.length c1, .int .i64 a0_0, .int .i64 a0_1, .int .i64 a0_2, .int .i64 a0_3, .int .i64 a0_4, .int .i64 a0_5] rfl sQ ?_; (with_reducible refine (spec_pgMap.calls k _ _ l1 a0_0 a0_1 a0_2 a0_3 a0_4 a0_5 t334 t335 _ ?side1 ?side2 A7.out).mono ?_); (case side1 => repeat (first | exact (Kd.C_below HR1.out HB.out) | (with_reducible refine cA ?_ _) | (with_reducible refine cN ?_ _) | (with_reducible refine cD ?_))); (case side2 => exact HC1.out); rintro e w13 ⟨v336, rfl, ho0, hb⟩; refine ⟨_, rfl, ?_⟩; have HO337 := aM (Kd.R_lower ho0 (pZ bE)); replace BK331 := bB BK331 hb; replace HB := tB HB hb; (try clear hb); (try clear hb2); (try clear hk); (try clear hi); (try clear ho0)))
   go_ret2
   exact ⟨_, by first | rfl | (simp [errW_none, errW_some] <;> rfl) | (simp [*, errW_none, errW_some] <;> rfl), by (with_reducible repeat (first | apply rA | apply rN | apply rD)); exact HO337.out, bE⟩
  ·replace c6 := Bool.eq_false_iff.mpr c6; subst c6; replace H := iF H
   simp only [Option.some.injEq, Prod.mk.injEq] at H
   obtain ⟨rfl, rfl⟩ := H
   go_enter Try.func38, Try.ntmps38
   go_wp2_with (first | ((with_reducible refine gate_dst (N := 2) rfl ?_); refine bV 2 (cs := #[.int .i64 a0_0, .int .i64 a0_1, .int .i64 a0_2, .int .i64 a0_3, .int .i64 a0_4, .int .i64 a0_5]) (t := 52) rfl rfl (by first | (go_simp; done) | (go_simp; rfl)) ?_; intro gb331 hg w14 hbox hb; have BK331 := hbox; have GW331 := gZ HB hg; have GE331 := gZ HB hg; replace HB := tB HB hb; clear hb hbox hg; have hcz15_0 := vZ0 BK331; have hcz15_1 := vZ1 BK331; have hcz15_2 := vZ2 BK331; have hcz15_3 := vZ3 BK331; have hcz15_4 := vZ4 BK331; have hcz15_5 := vZ5 BK331; have hfz15_0 := kF BK331.out 0; have hfz15_1 := kF BK331.out 1; have hfz15_2 := kF BK331.out 2; have hfz15_3 := kF BK331.out 3; have hfz15_4 := kF BK331.out 4; have hfz15_5 := kF BK331.out 5) | ((with_reducible refine gC (f := 86) rfl ?_); refine goesL_ (some 7) rfl rfl Try.func86 kR rfl #[.agg #[.int .i64 a0_0, .int .i64 a0_1, .int .i64 a0_2, .int .i64 a0_3, .int .i64 a0_4, .int .i64 a0_5]] rfl sQ ?_; (with_reducible refine (spec_mvGood.calls k a0_0 a0_1 a0_2 a0_3 a0_4 a0_5 true _ A3.out).mono ?_); rintro e w16 ⟨rfl, hb⟩; refine ⟨_, rfl, ?_⟩; replace BK331 := bB BK331 hb; replace HB := tB HB hb; (try clear hb); (try clear hb2); (try clear hk); (try clear hi)) | (go_at_call 63; (with_reducible refine (spec_pgGood.calls k _ _ l1 false _ ?side1 ?side2 A5.out).mono ?_); (case side1 => repeat (first | exact (Kd.C_below HR1.out HB.out) | (with_reducible refine cA ?_ _) | (with_reducible refine cN ?_ _) | (with_reducible refine cD ?_))); (case side2 => exact HC1.out); rintro e w17 ⟨rfl, hb⟩; replace BK331 := bB BK331 hb; replace HB := tB HB hb; (try clear hb); (try clear hb2); (try clear hk); (try clear hi)))
   go_ret2
   exact ⟨_, by first | rfl | (simp [errW_none, errW_some] <;> rfl) | (simp [*, errW_none, errW_some] <;> rfl), by first | exact Kd.R_nil _ _ _ _ _ | exact Kd.N_nil _ _ _ _ _ | exact Kd.V_nil _ _ _ _ _ | exact Kd.Q_nil _ _ _ _ _ | exact Kd.S_nil _ _ _ _ _, bE⟩
 ·replace c4 := Bool.eq_false_iff.mpr c4; subst c4; replace H := iF H
  simp only [Option.some.injEq, Prod.mk.injEq] at H
  obtain ⟨rfl, rfl⟩ := H
  go_enter Try.func38, Try.ntmps38
  go_wp2_with (first | ((with_reducible refine gate_dst (N := 2) rfl ?_); refine bV 2 (cs := #[.int .i64 a0_0, .int .i64 a0_1, .int .i64 a0_2, .int .i64 a0_3, .int .i64 a0_4, .int .i64 a0_5]) (t := 52) rfl rfl (by first | (go_simp; done) | (go_simp; rfl)) ?_; intro gb331 hg w18 hbox hb; have BK331 := hbox; have GW331 := gZ HB hg; have GE331 := gZ HB hg; replace HB := tB HB hb; clear hb hbox hg; have hcz19_0 := vZ0 BK331; have hcz19_1 := vZ1 BK331; have hcz19_2 := vZ2 BK331; have hcz19_3 := vZ3 BK331; have hcz19_4 := vZ4 BK331; have hcz19_5 := vZ5 BK331; have hfz19_0 := kF BK331.out 0; have hfz19_1 := kF BK331.out 1; have hfz19_2 := kF BK331.out 2; have hfz19_3 := kF BK331.out 3; have hfz19_4 := kF BK331.out 4; have hfz19_5 := kF BK331.out 5) | ((with_reducible refine gC (f := 86) rfl ?_); refine goesL_ (some 7) rfl rfl Try.func86 kR rfl #[.agg #[.int .i64 a0_0, .int .i64 a0_1, .int .i64 a0_2, .int .i64 a0_3, .int .i64 a0_4, .int .i64 a0_5]] rfl sQ ?_; (with_reducible refine (spec_mvGood.calls k a0_0 a0_1 a0_2 a0_3 a0_4 a0_5 false _ A3.out).mono ?_); rintro e w20 ⟨rfl, hb⟩; refine ⟨_, rfl, ?_⟩; replace BK331 := bB BK331 hb; replace HB := tB HB hb; (try clear hb); (try clear hb2); (try clear hk); (try clear hi)))
  go_ret2
  exact ⟨_, by first | rfl | (simp [errW_none, errW_some] <;> rfl) | (simp [*, errW_none, errW_some] <;> rfl), by first | exact Kd.R_nil _ _ _ _ _ | exact Kd.N_nil _ _ _ _ _ | exact Kd.V_nil _ _ _ _ _ | exact Kd.Q_nil _ _ _ _ _ | exact Kd.S_nil _ _ _ _ _, bE⟩

def laws_toMove.f (a0_0 : Int) (a0_1 : Int) (a0_2 : Int) (a0_3 : Int) (a0_4 : Int) (a0_5 : Int) : Option (Int × Int × Int × Int × Int × Int) := some (a0_0, a0_1, a0_2, a0_3, a0_4, a0_5)
set_option maxHeartbeats 8000000 in
set_option maxRecDepth 100000 in
theorem laws_toMove.calls (a0_0 : Int) (a0_1 : Int) (a0_2 : Int) (a0_3 : Int) (a0_4 : Int) (a0_5 : Int) (r1 : Int) (r2 : Int) (r3 : Int) (r4 : Int) (r5 : Int) (r6 : Int) (w : World) (h : laws_toMove.f a0_0 a0_1 a0_2 a0_3 a0_4 a0_5 = some (r1, r2, r3, r4, r5, r6)) :
  Calls Try.prog 39 #[.agg #[.int .i64 a0_0, .int .i64 a0_1, .int .i64 a0_2, .int .i64 a0_3, .int .i64 a0_4, .int .i64 a0_5]] w fun e w' => e = .returned (.agg #[.int .i64 r1, .int .i64 r2, .int .i64 r3, .int .i64 r4, .int .i64 r5, .int .i64 r6]) ∧ Below w.heap.size w w' := by
 have hu50 := Try.underlying50; have hu52 := Try.underlying52; have HB := aM (Below.refl w.heap.size w)
 unfold laws_toMove.f at h; have H := h; clear h
 simp only [Option.some.injEq, Prod.mk.injEq] at H
 obtain ⟨rfl, rfl, rfl, rfl, rfl, rfl⟩ := H
 go_enter Try.func39, Try.ntmps39
 go_wp2_with (first | ((with_reducible refine gate_dst (N := 1) rfl ?_); refine bV 1 (cs := #[.int .i64 a0_0, .int .i64 a0_1, .int .i64 a0_2, .int .i64 a0_3, .int .i64 a0_4, .int .i64 a0_5]) (t := 50) rfl rfl (by first | (go_simp; done) | (go_simp; rfl)) ?_; intro gb338 hg w2 hbox hb; have BK338 := hbox; have GW338 := gZ HB hg; have GE338 := gZ HB hg; replace HB := tB HB hb; clear hb hbox hg) | ((with_reducible refine gate_dst (N := 2) rfl ?_); refine bV 2 (cs := #[.int .i64 0, .int .i64 0, .int .i64 0, .int .i64 0, .int .i64 0, .int .i64 0]) (t := 52) rfl rfl (by first | (go_simp; done) | (go_simp; rfl)) ?_; intro gb339 hg w3 hbox hb; have BK339 := hbox; have GW339 := gZ HB hg; have GE339 := gZ HB hg; have NB338_339 := nG BK338 hg; have NB339_338 := nH BK338 hg; replace BK338 := bB BK338 hb; replace HB := tB HB hb; clear hb hbox hg) | ((with_reducible refine gate_dst (N := 3) rfl ?_); refine bV 3 (cs := #[.int .i64 0, .int .i64 0, .int .i64 0, .int .i64 0, .int .i64 0, .int .i64 0]) (t := 52) rfl rfl (by first | (go_simp; done) | (go_simp; rfl)) ?_; intro gb340 hg w4 hbox hb; have BK340 := hbox; have GW340 := gZ HB hg; have GE340 := gZ HB hg; have NB338_340 := nG BK338 hg; have NB340_338 := nH BK338 hg; have NB339_340 := nG BK339 hg; have NB340_339 := nH BK339 hg; replace BK338 := bB BK338 hb; replace BK339 := bB BK339 hb; replace HB := tB HB hb; clear hb hbox hg; have hnb5 := NB338_339.out; have hnc5 := NB339_338.out; have hnb6 := NB338_340.out; have hnc6 := NB340_338.out; have hcz7_0 := vZ0 BK338; have hcz7_1 := vZ1 BK338; have hcz7_2 := vZ2 BK338; have hcz7_3 := vZ3 BK338; have hcz7_4 := vZ4 BK338; have hcz7_5 := vZ5 BK338; have hfz7_0 := kF BK338.out 0; have hfz7_1 := kF BK338.out 1; have hfz7_2 := kF BK338.out 2; have hfz7_3 := kF BK338.out 3; have hfz7_4 := kF BK338.out 4; have hfz7_5 := kF BK338.out 5; have hnb8 := NB340_339.out; have hnc8 := NB339_340.out; have hcz9_0 := vZ0 BK340; have hcz9_1 := vZ1 BK340; have hcz9_2 := vZ2 BK340; have hcz9_3 := vZ3 BK340; have hcz9_4 := vZ4 BK340; have hcz9_5 := vZ5 BK340; have hfz9_0 := kF BK340.out 0; have hfz9_1 := kF BK340.out 1; have hfz9_2 := kF BK340.out 2; have hfz9_3 := kF BK340.out 3; have hfz9_4 := kF BK340.out 4; have hfz9_5 := kF BK340.out 5; have hcz10_0 := vZ0 BK339; have hcz10_1 := vZ1 BK339; have hcz10_2 := vZ2 BK339; have hcz10_3 := vZ3 BK339; have hcz10_4 := vZ4 BK339; have hcz10_5 := vZ5 BK339; have hfz10_0 := kF BK339.out 0; have hfz10_1 := kF BK339.out 1; have hfz10_2 := kF BK339.out 2; have hfz10_3 := kF BK339.out 3; have hfz10_4 := kF BK339.out 4; have hfz10_5 := kF BK339.out 5))
 refine bodyPost_ret (results_cell_row rfl _ _ gb339 52 #[.int .i64 a0_0, .int .i64 a0_1, .int .i64 a0_2, .int .i64 a0_3, .int .i64 a0_4, .int .i64 a0_5] (0, 0) _ rfl (fQ BK339) Try.underlying52 rfl kR) rfl ?_
 exact ⟨wQ, bE⟩

def impl_size.f (a0 : Int) : Option (Int) := some (mx a0 (wrap64 (-a0)))
set_option maxHeartbeats 8000000 in
set_option maxRecDepth 100000 in
theorem impl_size.calls (a0 : Int) (r : Int) (w : World) (h : impl_size.f a0 = some r) :
  Calls Try.prog 126 #[.int .i64 a0] w fun e w' => e = .returned (.int .i64 r) ∧ Below w.heap.size w w' := by
 have HB := aM (Below.refl w.heap.size w)
 unfold impl_size.f at h; have H := h; clear h
 obtain ⟨ji2, hji2⟩ : ∃ j_ : Int, (mx a0 (wrap64 (-a0))) = j_ := ⟨_, rfl⟩
 (first | rw [hji2] at H | simp only [hji2] at H)
 have hji2_ : (if a0 < (wrap64 (-a0)) then (wrap64 (-a0)) else a0) = ji2 := hji2; obtain rfl := Option.some.inj H
 go_enter Try.func126, Try.ntmps126
 go_wp2
 go_ret
 exact ⟨by first | rfl | (simp [errW_none, errW_some] <;> rfl) | (simp only [← hji2]; first | rfl | (simp [errW_none, errW_some] <;> rfl)) | (simp [*, errW_none, errW_some] <;> rfl), bQ⟩

def impl_isWay.f (a0 : Int) (a1 : Int) : Option (Bool) := (impl_size.f a0).bind fun t341 => (if t341 ≤ 80 then ((impl_size.f a1).bind fun t342 => (if t342 ≤ 80 then (if a0 > (-1000) then (some (decide (a1 > (-1000)))) else (some false)) else (some false))) else (some false))
set_option maxHeartbeats 8000000 in
set_option maxRecDepth 100000 in
theorem impl_isWay.calls (a0 : Int) (a1 : Int) (r : Bool) (w : World) (h : impl_isWay.f a0 a1 = some r) :
  Calls Try.prog 81 #[.int .i64 a0, .int .i64 a1] w fun e w' => e = .returned (.bool r) ∧ Below w.heap.size w w' := by
 have HB := aM (Below.refl w.heap.size w)
 unfold impl_isWay.f at h; have H := h; clear h
 replace H := bS H; obtain ⟨t341, A3, H⟩ := H
 by_cases c4 : t341 ≤ 80
 ·rw [if_pos c4] at H; have c4b0 := dE c4; clear c4; replace H := bS H; obtain ⟨t342, A5, H⟩ := H
  by_cases c6 : t342 ≤ 80
  ·rw [if_pos c6] at H; have c6b0 := dE c6; clear c6
   by_cases c7 : a0 > (-1000)
   ·rw [if_pos c7] at H; have c7b0 := dE c7; clear c7; obtain rfl := Option.some.inj H
    go_enter Try.func81, Try.ntmps81
    go_wp2_with (first | ((with_reducible refine gC (f := 126) rfl ?_); refine goesL_ (some 6) rfl rfl Try.func126 kR rfl #[.int .i64 a0] rfl sQ ?_; (with_reducible refine (impl_size.calls a0 t341 _ A3.out).mono ?_); rintro e w8 ⟨rfl, hb⟩; refine ⟨_, rfl, ?_⟩; replace HB := tB HB hb; (try clear hb); (try clear hb2); (try clear hk); (try clear hi)) | (go_at_call 126; (with_reducible refine (impl_size.calls a1 t342 _ A5.out).mono ?_); rintro e w9 ⟨rfl, hb⟩; replace HB := tB HB hb; (try clear hb); (try clear hb2); (try clear hk); (try clear hi)))
    go_ret
    exact ⟨wQ, bQ⟩
   ·rw [if_neg c7] at H; have c7b0 := decide_eq_false c7; clear c7; obtain rfl := Option.some.inj H
    go_enter Try.func81, Try.ntmps81
    go_wp2_with (first | ((with_reducible refine gC (f := 126) rfl ?_); refine goesL_ (some 6) rfl rfl Try.func126 kR rfl #[.int .i64 a0] rfl sQ ?_; (with_reducible refine (impl_size.calls a0 t341 _ A3.out).mono ?_); rintro e w10 ⟨rfl, hb⟩; refine ⟨_, rfl, ?_⟩; replace HB := tB HB hb; (try clear hb); (try clear hb2); (try clear hk); (try clear hi)) | (go_at_call 126; (with_reducible refine (impl_size.calls a1 t342 _ A5.out).mono ?_); rintro e w11 ⟨rfl, hb⟩; replace HB := tB HB hb; (try clear hb); (try clear hb2); (try clear hk); (try clear hi)))
    go_ret
    exact ⟨wQ, bQ⟩
  ·rw [if_neg c6] at H; have c6b0 := decide_eq_false c6; clear c6; obtain rfl := Option.some.inj H
   go_enter Try.func81, Try.ntmps81
   go_wp2_with (first | ((with_reducible refine gC (f := 126) rfl ?_); refine goesL_ (some 6) rfl rfl Try.func126 kR rfl #[.int .i64 a0] rfl sQ ?_; (with_reducible refine (impl_size.calls a0 t341 _ A3.out).mono ?_); rintro e w12 ⟨rfl, hb⟩; refine ⟨_, rfl, ?_⟩; replace HB := tB HB hb; (try clear hb); (try clear hb2); (try clear hk); (try clear hi)) | (go_at_call 126; (with_reducible refine (impl_size.calls a1 t342 _ A5.out).mono ?_); rintro e w13 ⟨rfl, hb⟩; replace HB := tB HB hb; (try clear hb); (try clear hb2); (try clear hk); (try clear hi)))
   go_ret
   exact ⟨wQ, bQ⟩
 ·rw [if_neg c4] at H; have c4b0 := decide_eq_false c4; clear c4; obtain rfl := Option.some.inj H
  go_enter Try.func81, Try.ntmps81
  go_wp2_with (first | ((with_reducible refine gC (f := 126) rfl ?_); refine goesL_ (some 6) rfl rfl Try.func126 kR rfl #[.int .i64 a0] rfl sQ ?_; (with_reducible refine (impl_size.calls a0 t341 _ A3.out).mono ?_); rintro e w14 ⟨rfl, hb⟩; refine ⟨_, rfl, ?_⟩; replace HB := tB HB hb; (try clear hb); (try clear hb2); (try clear hk); (try clear hi)))
  go_ret
  exact ⟨wQ, bQ⟩

def impl_Move_side.f (a0_0 : Int) (a0_1 : Int) (a0_2 : Int) (a0_3 : Int) (a0_4 : Int) (a0_5 : Int) : Option (Int) := some (wrap64 ((wrap64 (a0_0 * a0_3)) - (wrap64 (a0_1 * a0_2))))
set_option maxHeartbeats 8000000 in
set_option maxRecDepth 100000 in
theorem impl_Move_side.calls (a0_0 : Int) (a0_1 : Int) (a0_2 : Int) (a0_3 : Int) (a0_4 : Int) (a0_5 : Int) (r : Int) (w : World) (h : impl_Move_side.f a0_0 a0_1 a0_2 a0_3 a0_4 a0_5 = some r) :
  Calls Try.prog 128 #[.agg #[.int .i64 a0_0, .int .i64 a0_1, .int .i64 a0_2, .int .i64 a0_3, .int .i64 a0_4, .int .i64 a0_5]] w fun e w' => e = .returned (.int .i64 r) ∧ Below w.heap.size w w' := by
 have hu52 := Try.underlying52; have HB := aM (Below.refl w.heap.size w)
 unfold impl_Move_side.f at h; have H := h; clear h
 obtain rfl := Option.some.inj H
 go_enter Try.func128, Try.ntmps128
 go_wp2_with (first | ((with_reducible refine gate_dst (N := 1) rfl ?_); refine bV 1 (cs := #[.int .i64 a0_0, .int .i64 a0_1, .int .i64 a0_2, .int .i64 a0_3, .int .i64 a0_4, .int .i64 a0_5]) (t := 52) rfl rfl (by first | (go_simp; done) | (go_simp; rfl)) ?_; intro gb343 hg w2 hbox hb; have BK343 := hbox; have GW343 := gZ HB hg; have GE343 := gZ HB hg; replace HB := tB HB hb; clear hb hbox hg; have hcz3_0 := vZ0 BK343; have hcz3_1 := vZ1 BK343; have hcz3_2 := vZ2 BK343; have hcz3_3 := vZ3 BK343; have hcz3_4 := vZ4 BK343; have hcz3_5 := vZ5 BK343; have hfz3_0 := kF BK343.out 0; have hfz3_1 := kF BK343.out 1; have hfz3_2 := kF BK343.out 2; have hfz3_3 := kF BK343.out 3; have hfz3_4 := kF BK343.out 4; have hfz3_5 := kF BK343.out 5))
 go_ret
 exact ⟨wQ, bE⟩

def impl_IsMove.l0 : Nat → List Int → Int → Int → Int → Int → Int → Int → Int → Int → Option (Bool)
 | 0, _, _, _, _, _, _, _, _, _ => none
 | k + 1, x13, x14, x15, x345000, x345001, x345002, x345003, x345004, x345005 => if x15 < x14 then (if 0 ≤ x15 then (if x15 < (x13.length : Int) then ((impl_within.f (rd x13 x15) (-20) 20).bind fun t349 => (if t349 = true then (impl_IsMove.l0 k x13 x14 (wrap64 (x15 + 1)) x345000 x345001 x345002 x345003 x345004 x345005) else (some false))) else (none)) else (none)) else ((impl_isWay.f x345004 x345005).bind fun t350 => (if t350 = true then ((impl_Move_side.f x345000 x345001 x345002 x345003 x345004 x345005).bind fun t351 => ((impl_size.f t351).bind fun t352 => (some (t352 == 1)))) else (some false)))
def impl_IsMove.f (k : Nat) (a0_0 : Int) (a0_1 : Int) (a0_2 : Int) (a0_3 : Int) (a0_4 : Int) (a0_5 : Int) : Option (Bool) := (some (([a0_0, a0_1, a0_2, a0_3] : List Int) : List Int)).bind fun y345 => (impl_IsMove.l0 k y345 (y345.length : Int) 0 a0_0 a0_1 a0_2 a0_3 a0_4 a0_5)
theorem impl_IsMove.mono_l : ∀ k, (∀ y0 y1 y2 y3 y4 y5 y6 y7 y8, LeO (impl_IsMove.l0 k y0 y1 y2 y3 y4 y5 y6 y7 y8) (impl_IsMove.l0 (k + 1) y0 y1 y2 y3 y4 y5 y6 y7 y8))
 | 0 => fun _ _ _ _ _ _ _ _ _ r h => by simp [impl_IsMove.l0] at h
 | k + 1 => by
  have ih0 := impl_IsMove.mono_l k
  ·intro y0 y1 y2 y3 y4 y5 y6 y7 y8
   unfold impl_IsMove.l0
   repeat' first
   | (with_reducible exact ih0 _ _ _ _ _ _ _ _ _)
   | (with_reducible exact LeO.refl _)
   | (with_reducible exact LeO.none _)
   | (with_reducible refine LeO.ite ?_ ?_)
   | (with_reducible refine LeO.bind ?_ (fun _ => ?_))
   | exact ih0 _ _ _ _ _ _ _ _ _
   | exact LeO.none _
   | refine LeO.ite ?_ ?_
   | refine LeO.bind ?_ (fun _ => ?_)
theorem impl_IsMove.mono : ∀ a0 a1 a2 a3 a4 a5 k, LeO (impl_IsMove.f k a0 a1 a2 a3 a4 a5) (impl_IsMove.f (k + 1) a0 a1 a2 a3 a4 a5) := by
 intro a0 a1 a2 a3 a4 a5 k
 have ih0 := impl_IsMove.mono_l k
 unfold impl_IsMove.f
 repeat' first | (with_reducible exact ih0 _ _ _ _ _ _ _ _ _) | (with_reducible exact LeO.refl _) | (with_reducible exact LeO.none _) | (with_reducible refine LeO.ite ?_ ?_) | (with_reducible refine LeO.bind ?_ (fun _ => ?_)) | exact ih0 _ _ _ _ _ _ _ _ _ | exact LeO.none _ | refine LeO.ite ?_ ?_ | refine LeO.bind ?_ (fun _ => ?_)
set_option maxHeartbeats 8000000 in
set_option maxRecDepth 100000 in
theorem impl_IsMove.calls (k : Nat) (a0_0 : Int) (a0_1 : Int) (a0_2 : Int) (a0_3 : Int) (a0_4 : Int) (a0_5 : Int) (r : Bool) (w : World) (h : impl_IsMove.f k a0_0 a0_1 a0_2 a0_3 a0_4 a0_5 = some r) :
  Calls Try.prog 87 #[.agg #[.int .i64 a0_0, .int .i64 a0_1, .int .i64 a0_2, .int .i64 a0_3, .int .i64 a0_4, .int .i64 a0_5]] w fun e w' => e = .returned (.bool r) ∧ Below w.heap.size w w' := by
 have hu52 := Try.underlying52; have HB := aM (Below.refl w.heap.size w)
 unfold impl_IsMove.f at h; have H := h; clear h
 replace H := lS H; obtain ⟨y345, Ny345, H⟩ := H; have H' := aM H; clear H
 go_enter Try.func87, Try.ntmps87
 go_wp2_with (first | ((with_reducible refine gate_dst (N := 1) rfl ?_); refine bV 1 (cs := #[.int .i64 a0_0, .int .i64 a0_1, .int .i64 a0_2, .int .i64 a0_3, .int .i64 a0_4, .int .i64 a0_5]) (t := 52) rfl rfl (by first | (go_simp; done) | (go_simp; rfl)) ?_; intro gb344 hg w2 hbox hb; have BK344 := hbox; have GW344 := gZ HB hg; have GE344 := gZ HB hg; replace HB := tB HB hb; clear hb hbox hg; have hcz3_0 := vZ0 BK344; have hcz3_1 := vZ1 BK344; have hcz3_2 := vZ2 BK344; have hcz3_3 := vZ3 BK344; have hcz3_4 := vZ4 BK344; have hcz3_5 := vZ5 BK344; have hfz3_0 := kF BK344.out 0; have hfz3_1 := kF BK344.out 1; have hfz3_2 := kF BK344.out 2; have hfz3_3 := kF BK344.out 3; have hfz3_4 := kF BK344.out 4; have hfz3_5 := kF BK344.out 5) | ((with_reducible refine gate_dst (N := 13) rfl ?_); refine Kd.R_lit (Kd.int .i64) _ 3 ?hg (N := 13) ?hd (xs := ([a0_0, a0_1, a0_2, a0_3] : List Int)) (inner := [.int .i64 a0_0, .int .i64 a0_1, .int .i64 a0_2, .int .i64 a0_3]) (ok := fun _ => True) (okp := fun _ => True) ?hr ?hp (fun _ hk => hk) trivial (Below.refl _ _) (Nat.le_refl _) (by simp) ?_; (case hd => rfl); (case hg => rfl); (case hr => first | (go_simp; done) | (go_simp; rfl)); (case hp => exact (Reps.one (show Kd.M (Kd.int .i64) _ _ _ a0_0 [.int .i64 a0_0] from rfl) (Reps.one (show Kd.M (Kd.int .i64) _ _ _ a0_1 [.int .i64 a0_1] from rfl) (Reps.one (show Kd.M (Kd.int .i64) _ _ _ a0_2 [.int .i64 a0_2] from rfl) (Reps.one (show Kd.M (Kd.int .i64) _ _ _ a0_3 [.int .i64 a0_3] from rfl) (Reps.none _ _)))))); intro v346 w4 ho5 hb hg_ hnew_; clear hg_ hnew_; (first | rw [← Ny345.out] at ho5 | (simp only [Int.reduceToNat] at ho5; rw [← Ny345.out] at ho5)); have HO347 := aM (Kd.R_lower ho5 (pZ bE)); replace BK344 := bB BK344 hb; replace HB := tB HB hb; clear hb ho5; obtain ⟨Ao6, co6, eo6⟩ := Kd.R_slice HO347.out; subst eo6))
 go_loopg [15] k (fun kq v15 w' => ∃ (x15_1 : Int), v15 = .int .i64 x15_1 ∧ Aside0 (impl_IsMove.l0 kq y345 (y345.length : Int) x15_1 a0_0 a0_1 a0_2 a0_3 a0_4 a0_5 = some r) ∧ Aside0 (kq ≤ k) ∧ Aside0 (Kd.R (Kd.int .i64) 3 w' w.heap.size (fun _ => True) (.slice Ao6 y345.length co6) y345) ∧ Aside0 (w'.heap[gb344]? = some (.cells #[.int .i64 a0_0, .int .i64 a0_1, .int .i64 a0_2, .int .i64 a0_3, .int .i64 a0_4, .int .i64 a0_5] 52 (0, 0))) ∧ Aside0 (Below w.heap.size w w'))
 case atStart => exact ⟨(0), eQ, H', ⟨Nat.le_refl _⟩, ⟨by (with_reducible repeat (first | apply rA | apply rN | apply rD)); exact HO347.out⟩, ⟨gQ BK344⟩, ⟨bE⟩⟩
 case round =>
  clear H'; (try clear hcz3_0); (try clear hcz3_1); (try clear hcz3_2); (try clear hcz3_3); (try clear hcz3_4); (try clear hcz3_5); (try clear hfz3_0); (try clear hfz3_1); (try clear hfz3_2); (try clear hfz3_3); (try clear hfz3_4); (try clear hfz3_5); obtain ⟨x15_1, rfl, HA, HK1, HO_13, BK344, HB⟩ := hrel
  cases gk with
  | zero => exact absurd HA.out (by simp [impl_IsMove.l0])
  | succ k1 =>
   have H := HA.out; clear HA
   simp only [impl_IsMove.l0] at H
   by_cases c7 : x15_1 < (y345.length : Int)
   ·rw [if_pos c7] at H; have c7b0 := dE c7; clear c7; replace H := iD H; obtain ⟨c8b0, H⟩ := H; replace H := iD H; obtain ⟨c9b0, H⟩ := H; replace H := bS H; obtain ⟨t349, A10, H⟩ := H
    by_cases c11 : t349 = true
    ·subst c11; replace H := iT H; have H' := aM H; clear H; have p348 : 0 ≤ (x15_1 : Int) := dT aQ; have q348 : x15_1 < (y345.length : Int) := dT aQ; obtain ⟨ad348, e348, hx348_0⟩ := Kd.at_int (rR HO_13.out).2.2 x15_1 p348 q348
     cases e348
     replace p348 := eq_true p348; replace q348 := eq_true q348
     go_wp2_with (first | ((with_reducible refine gC (f := 59) rfl ?_); refine goesL_ (some 20) rfl rfl Try.func59 kR rfl #[.int .i64 (rd y345 x15_1), .int .i64 (-20), .int .i64 20] rfl sQ ?_; (with_reducible refine (impl_within.calls (rd y345 x15_1) (-20) 20 true _ A10.out).mono ?_); rintro e w' ⟨rfl, ⟨nd, rfl⟩⟩; refine ⟨_, rfl, ?_⟩))
     go_roundg k1
     case measure => have := HK1.out; omega
     case rel => exact ⟨(wrap64 (x15_1 + 1)), eQ, H', ⟨by have := HK1.out; omega⟩, ⟨by (with_reducible repeat (first | apply rA | apply rN | apply rD)); exact HO_13.out⟩, ⟨gQ BK344⟩, ⟨bE⟩⟩
    ·replace c11 := Bool.eq_false_iff.mpr c11; subst c11; replace H := iF H; obtain rfl := Option.some.inj H; have p348 : 0 ≤ (x15_1 : Int) := dT aQ; have q348 : x15_1 < (y345.length : Int) := dT aQ; obtain ⟨ad348, e348, hx348_0⟩ := Kd.at_int (rR HO_13.out).2.2 x15_1 p348 q348
     cases e348
     replace p348 := eq_true p348; replace q348 := eq_true q348
     go_wp2_with (first | ((with_reducible refine gC (f := 59) rfl ?_); refine goesL_ (some 20) rfl rfl Try.func59 kR rfl #[.int .i64 (rd y345 x15_1), .int .i64 (-20), .int .i64 20] rfl sQ ?_; (with_reducible refine (impl_within.calls (rd y345 x15_1) (-20) 20 false _ A10.out).mono ?_); rintro e w' ⟨rfl, ⟨nd, rfl⟩⟩; refine ⟨_, rfl, ?_⟩))
     go_ret
     exact ⟨wQ, bE⟩
   ·rw [if_neg c7] at H; have c7b0 := decide_eq_false c7; clear c7; replace H := bS H; obtain ⟨t350, A12, H⟩ := H
    by_cases c13 : t350 = true
    ·subst c13; replace H := iT H; replace H := bS H; obtain ⟨t351, A14, H⟩ := H; replace H := bS H; obtain ⟨t352, A15, H⟩ := H; obtain rfl := Option.some.inj H; have hcz16_0 : wr.cell? ⟨gb344, 0, none⟩ = some (.int .i64 a0_0) := vZ0 BK344; have hcz16_1 : wr.cell? ⟨gb344, 1, none⟩ = some (.int .i64 a0_1) := vZ1 BK344; have hcz16_2 : wr.cell? ⟨gb344, 2, none⟩ = some (.int .i64 a0_2) := vZ2 BK344; have hcz16_3 : wr.cell? ⟨gb344, 3, none⟩ = some (.int .i64 a0_3) := vZ3 BK344; have hcz16_4 : wr.cell? ⟨gb344, 4, none⟩ = some (.int .i64 a0_4) := vZ4 BK344; have hcz16_5 : wr.cell? ⟨gb344, 5, none⟩ = some (.int .i64 a0_5) := vZ5 BK344; have hfz16_0 := kF BK344.out 0; have hfz16_1 := kF BK344.out 1; have hfz16_2 := kF BK344.out 2; have hfz16_3 := kF BK344.out 3; have hfz16_4 := kF BK344.out 4; have hfz16_5 := kF BK344.out 5
     go_wp2_with (first | ((with_reducible refine gC (f := 81) rfl ?_); refine goesL_ (some 27) rfl rfl Try.func81 kR rfl #[.int .i64 a0_4, .int .i64 a0_5] rfl sQ ?_; (with_reducible refine (impl_isWay.calls a0_4 a0_5 true _ A12.out).mono ?_); rintro e w17 ⟨rfl, hb⟩; refine ⟨_, rfl, ?_⟩; replace HO_13 := aM (Kd.R_below (by (with_reducible repeat (first | apply rA | apply rN | apply rD)); exact HO_13.out) hb); replace BK344 := bB BK344 hb; replace HB := tB HB hb; (try clear hb); (try clear hb2); (try clear hk); (try clear hi); have hcz18_0 := vZ0 BK344; have hcz18_1 := vZ1 BK344; have hcz18_2 := vZ2 BK344; have hcz18_3 := vZ3 BK344; have hcz18_4 := vZ4 BK344; have hcz18_5 := vZ5 BK344; have hfz18_0 := kF BK344.out 0; have hfz18_1 := kF BK344.out 1; have hfz18_2 := kF BK344.out 2; have hfz18_3 := kF BK344.out 3; have hfz18_4 := kF BK344.out 4; have hfz18_5 := kF BK344.out 5) | (go_at_call 128; (with_reducible refine (impl_Move_side.calls a0_0 a0_1 a0_2 a0_3 a0_4 a0_5 t351 _ A14.out).mono ?_); rintro e w19 ⟨rfl, hb⟩; replace HO_13 := aM (Kd.R_below (by (with_reducible repeat (first | apply rA | apply rN | apply rD)); exact HO_13.out) hb); replace BK344 := bB BK344 hb; replace HB := tB HB hb; (try clear hb); (try clear hb2); (try clear hk); (try clear hi)) | (go_at_call 126; (with_reducible refine (impl_size.calls t351 t352 _ A15.out).mono ?_); rintro e w20 ⟨rfl, hb⟩; replace HO_13 := aM (Kd.R_below (by (with_reducible repeat (first | apply rA | apply rN | apply rD)); exact HO_13.out) hb); replace BK344 := bB BK344 hb; replace HB := tB HB hb; (try clear hb); (try clear hb2); (try clear hk); (try clear hi)))
     go_ret
     exact ⟨wQ, bE⟩
    ·replace c13 := Bool.eq_false_iff.mpr c13; subst c13; replace H := iF H; obtain rfl := Option.some.inj H; have hcz21_0 : wr.cell? ⟨gb344, 0, none⟩ = some (.int .i64 a0_0) := vZ0 BK344; have hcz21_1 : wr.cell? ⟨gb344, 1, none⟩ = some (.int .i64 a0_1) := vZ1 BK344; have hcz21_2 : wr.cell? ⟨gb344, 2, none⟩ = some (.int .i64 a0_2) := vZ2 BK344; have hcz21_3 : wr.cell? ⟨gb344, 3, none⟩ = some (.int .i64 a0_3) := vZ3 BK344; have hcz21_4 : wr.cell? ⟨gb344, 4, none⟩ = some (.int .i64 a0_4) := vZ4 BK344; have hcz21_5 : wr.cell? ⟨gb344, 5, none⟩ = some (.int .i64 a0_5) := vZ5 BK344; have hfz21_0 := kF BK344.out 0; have hfz21_1 := kF BK344.out 1; have hfz21_2 := kF BK344.out 2; have hfz21_3 := kF BK344.out 3; have hfz21_4 := kF BK344.out 4; have hfz21_5 := kF BK344.out 5
     go_wp2_with (first | ((with_reducible refine gC (f := 81) rfl ?_); refine goesL_ (some 27) rfl rfl Try.func81 kR rfl #[.int .i64 a0_4, .int .i64 a0_5] rfl sQ ?_; (with_reducible refine (impl_isWay.calls a0_4 a0_5 false _ A12.out).mono ?_); rintro e w22 ⟨rfl, hb⟩; refine ⟨_, rfl, ?_⟩; replace HO_13 := aM (Kd.R_below (by (with_reducible repeat (first | apply rA | apply rN | apply rD)); exact HO_13.out) hb); replace BK344 := bB BK344 hb; replace HB := tB HB hb; (try clear hb); (try clear hb2); (try clear hk); (try clear hi)))
     go_ret
     exact ⟨wQ, bE⟩

def impl_Move_bring.f (a0_0 : Int) (a0_1 : Int) (a0_2 : Int) (a0_3 : Int) (a0_4 : Int) (a0_5 : Int) (a1_0 : Int) (a1_1 : Int) : Option (Int × Int) := some (wrap64 ((wrap64 ((wrap64 (a0_0 * a1_0)) + (wrap64 (a0_1 * a1_1)))) + a0_4), wrap64 ((wrap64 ((wrap64 (a0_2 * a1_0)) + (wrap64 (a0_3 * a1_1)))) + a0_5))
set_option maxHeartbeats 8000000 in
set_option maxRecDepth 100000 in
theorem impl_Move_bring.calls (a0_0 : Int) (a0_1 : Int) (a0_2 : Int) (a0_3 : Int) (a0_4 : Int) (a0_5 : Int) (a1_0 : Int) (a1_1 : Int) (r1 : Int) (r2 : Int) (w : World) (h : impl_Move_bring.f a0_0 a0_1 a0_2 a0_3 a0_4 a0_5 a1_0 a1_1 = some (r1, r2)) :
  Calls Try.prog 88 #[.agg #[.int .i64 a0_0, .int .i64 a0_1, .int .i64 a0_2, .int .i64 a0_3, .int .i64 a0_4, .int .i64 a0_5], .agg #[.int .i64 a1_0, .int .i64 a1_1]] w fun e w' => e = .returned (.agg #[.int .i64 r1, .int .i64 r2]) ∧ Below w.heap.size w w' := by
 have hu52 := Try.underlying52; have hu26 := Try.underlying26; have HB := aM (Below.refl w.heap.size w)
 unfold impl_Move_bring.f at h; have H := h; clear h
 simp only [Option.some.injEq, Prod.mk.injEq] at H
 obtain ⟨rfl, rfl⟩ := H
 go_enter Try.func88, Try.ntmps88
 go_wp2_with (first | ((with_reducible refine gate_dst (N := 2) rfl ?_); refine bV 2 (cs := #[.int .i64 a0_0, .int .i64 a0_1, .int .i64 a0_2, .int .i64 a0_3, .int .i64 a0_4, .int .i64 a0_5]) (t := 52) rfl rfl (by first | (go_simp; done) | (go_simp; rfl)) ?_; intro gb353 hg w3 hbox hb; have BK353 := hbox; have GW353 := gZ HB hg; have GE353 := gZ HB hg; replace HB := tB HB hb; clear hb hbox hg) | ((with_reducible refine gate_dst (N := 3) rfl ?_); refine bV 3 (cs := #[.int .i64 a1_0, .int .i64 a1_1]) (t := 26) rfl rfl (by first | (go_simp; done) | (go_simp; rfl)) ?_; intro gb354 hg w4 hbox hb; have BK354 := hbox; have GW354 := gZ HB hg; have GE354 := gZ HB hg; have NB353_354 := nG BK353 hg; have NB354_353 := nH BK353 hg; replace BK353 := bB BK353 hb; replace HB := tB HB hb; clear hb hbox hg) | ((with_reducible refine gate_dst (N := 4) rfl ?_); refine bV 4 (cs := #[.int .i64 0, .int .i64 0]) (t := 26) rfl rfl (by first | (go_simp; done) | (go_simp; rfl)) ?_; intro gb355 hg w5 hbox hb; have BK355 := hbox; have GW355 := gZ HB hg; have GE355 := gZ HB hg; have NB353_355 := nG BK353 hg; have NB355_353 := nH BK353 hg; have NB354_355 := nG BK354 hg; have NB355_354 := nH BK354 hg; replace BK353 := bB BK353 hb; replace BK354 := bB BK354 hb; replace HB := tB HB hb; clear hb hbox hg; have hnb6 := NB353_354.out; have hnc6 := NB354_353.out; have hnb7 := NB353_355.out; have hnc7 := NB355_353.out; have hcz8_0 := vZ0 BK353; have hcz8_1 := vZ1 BK353; have hcz8_2 := vZ2 BK353; have hcz8_3 := vZ3 BK353; have hcz8_4 := vZ4 BK353; have hcz8_5 := vZ5 BK353; have hfz8_0 := kF BK353.out 0; have hfz8_1 := kF BK353.out 1; have hfz8_2 := kF BK353.out 2; have hfz8_3 := kF BK353.out 3; have hfz8_4 := kF BK353.out 4; have hfz8_5 := kF BK353.out 5; have hnb9 := NB354_355.out; have hnc9 := NB355_354.out; have hcz10_0 := vZ0 BK354; have hcz10_1 := vZ1 BK354; have hfz10_0 := kF BK354.out 0; have hfz10_1 := kF BK354.out 1; have hcz11_0 := vZ0 BK355; have hcz11_1 := vZ1 BK355; have hfz11_0 := kF BK355.out 0; have hfz11_1 := kF BK355.out 1))
 refine bodyPost_ret (results_cell_row rfl _ _ gb355 26 #[.int .i64 (wrap64 ((wrap64 ((wrap64 (a0_0 * a1_0)) + (wrap64 (a0_1 * a1_1)))) + a0_4)), .int .i64 (wrap64 ((wrap64 ((wrap64 (a0_2 * a1_0)) + (wrap64 (a0_3 * a1_1)))) + a0_5))] (0, 0) _ rfl (fQ BK355) Try.underlying26 rfl kR) rfl ?_
 exact ⟨wQ, bE⟩

end Go.Proofs.Ytklhakfmegbobaa.X
