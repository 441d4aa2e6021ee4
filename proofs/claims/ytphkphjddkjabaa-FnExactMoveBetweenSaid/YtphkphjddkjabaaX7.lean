-- thin
-- short
-- compact
import Derived.Test.YtphkphjddkjabaaXA
import Derived.Test.YtphkphjddkjabaaX0
import Derived.Test.YtphkphjddkjabaaX2
import Derived.Test.YtphkphjddkjabaaX5
namespace Go.Proofs.Ytphkphjddkjabaa.X
open Go.RowKit Go.Proofs.Ytphkphjddkjabaa.XW Go.Proofs.YtphkphjddkjabaaW.PrintWords Go.Proofs.YtphkphjddkjabaaW.PrintLast Go.Proofs.YtphkphjddkjabaaW.PrintMore
attribute [local go_sem] max2_int min2_int max_two min_two max_three min_three max_four min_four   -- for this text's walks alone
set_option linter.unusedVariables false
set_option linter.unusedSimpArgs false

def spec_l1All.l0 : Nat → Int → Int → List Int → Int → Int → Option (Bool)
 | 0, _, _, _, _, _ => none
 | k + 1, x1, x2, x9, x10, x11 => if x11 < x10 then (if 0 ≤ x11 then (if x11 < (x9.length : Int) then ((spec_l1In.f (rd x9 x11) x1 x2).bind fun t202 => (if t202 = true then (spec_l1All.l0 k x1 x2 x9 x10 (wrap64 (x11 + 1))) else (some false))) else (none)) else (none)) else (some true)
def spec_l1All.f (k : Nat) (l0 : List Int) (a1 : Int) (a2 : Int) : Option (Bool) := spec_l1All.l0 k a1 a2 l0 (l0.length : Int) 0
theorem spec_l1All.mono_l : ∀ k, (∀ y0 y1 y2 y3 y4, LeO (spec_l1All.l0 k y0 y1 y2 y3 y4) (spec_l1All.l0 (k + 1) y0 y1 y2 y3 y4))
 | 0 => fun _ _ _ _ _ r h => by simp [spec_l1All.l0] at h
 | k + 1 => by
  have ih0 := spec_l1All.mono_l k
  ·intro y0 y1 y2 y3 y4
   unfold spec_l1All.l0
   repeat' first
   | (with_reducible exact ih0 _ _ _ _ _)
   | (with_reducible exact LeO.refl _)
   | (with_reducible exact LeO.none _)
   | (with_reducible refine LeO.ite ?_ ?_)
   | (with_reducible refine LeO.bind ?_ (fun _ => ?_))
   | exact ih0 _ _ _ _ _
   | exact LeO.none _
   | refine LeO.ite ?_ ?_
   | refine LeO.bind ?_ (fun _ => ?_)
theorem spec_l1All.mono : ∀ a0 a1 a2 k, LeO (spec_l1All.f k a0 a1 a2) (spec_l1All.f (k + 1) a0 a1 a2) := by
 intro a0 a1 a2 k
 have ih0 := spec_l1All.mono_l k
 unfold spec_l1All.f
 repeat' first | (with_reducible exact ih0 _ _ _ _ _) | (with_reducible exact LeO.refl _) | (with_reducible exact LeO.none _) | (with_reducible refine LeO.ite ?_ ?_) | (with_reducible refine LeO.bind ?_ (fun _ => ?_)) | exact ih0 _ _ _ _ _ | exact LeO.none _ | refine LeO.ite ?_ ?_ | refine LeO.bind ?_ (fun _ => ?_)
set_option maxHeartbeats 8000000 in
set_option maxRecDepth 100000 in
theorem spec_l1All.calls (k : Nat) (A0 : Option Addr) (c0 : Nat) (l0 : List Int) (a1 : Int) (a2 : Int) (r : Bool) (w : World) (hr0 : Kd.C (Kd.int .i64) w A0 l0.length l0) (hc0 : l0.length ≤ c0) (h : spec_l1All.f k l0 a1 a2 = some r) :
  Calls Try.prog 43 #[.slice A0 l0.length c0, .int .i64 a1, .int .i64 a2] w fun e w' => e = .returned (.bool r) ∧ Drawn0 w w' := by
 have HR0 := aM hr0; have HC0 := aM hc0; clear hr0 hc0
 unfold spec_l1All.f at h; have H := h; clear h
 have H' := aM H; clear H
 go_enter Try.func43, Try.ntmps43
 go_wp2
 go_loopg [11] k (fun kq v11 w' => ∃ (x11_1 : Int), v11 = .int .i64 x11_1 ∧ Aside0 (spec_l1All.l0 kq a1 a2 l0 (l0.length : Int) x11_1 = some r) ∧ Aside0 (kq ≤ k) ∧ Drawn0 w w')
 case atStart => exact ⟨(0), eQ, H', ⟨Nat.le_refl _⟩, dQ⟩
 case round =>
  clear H'; obtain ⟨x11_1, rfl, HA, HK1, ⟨m1, rfl⟩⟩ := hrel
  cases gk with
  | zero => exact absurd HA.out (by simp [spec_l1All.l0])
  | succ k1 =>
   have H := HA.out; clear HA
   simp only [spec_l1All.l0] at H
   by_cases c4 : x11_1 < (l0.length : Int)
   ·rw [if_pos c4] at H; have c4b0 := dE c4; clear c4; replace H := iD H; obtain ⟨c5b0, H⟩ := H; replace H := iD H; obtain ⟨c6b0, H⟩ := H; replace H := bS H; obtain ⟨t202, A7, H⟩ := H
    by_cases c8 : t202 = true
    ·subst c8; replace H := iT H; have H' := aM H; clear H; have p201 : 0 ≤ (x11_1 : Int) := dT aQ; have q201 : x11_1 < (l0.length : Int) := dT aQ; obtain ⟨ad201, e201, hx201_0⟩ := Kd.at_int HR0.out x11_1 p201 q201
     cases e201
     replace p201 := eq_true p201; replace q201 := eq_true q201
     go_wp2_with (first | ((with_reducible refine gC (f := 22) rfl ?_); refine goesL_ (some 18) rfl rfl Try.func22 kR rfl #[.int .i64 (rd l0 x11_1), .int .i64 a1, .int .i64 a2] rfl sQ ?_; (with_reducible refine (spec_l1In.calls (rd l0 x11_1) a1 a2 true _ A7.out).mono ?_); rintro e w' ⟨rfl, ⟨nd, rfl⟩⟩; refine ⟨_, rfl, ?_⟩))
     go_roundg k1
     case measure => have := HK1.out; omega
     case rel => exact ⟨(wrap64 (x11_1 + 1)), eQ, H', ⟨by have := HK1.out; omega⟩, dQ⟩
    ·replace c8 := Bool.eq_false_iff.mpr c8; subst c8; replace H := iF H; obtain rfl := Option.some.inj H; have p201 : 0 ≤ (x11_1 : Int) := dT aQ; have q201 : x11_1 < (l0.length : Int) := dT aQ; obtain ⟨ad201, e201, hx201_0⟩ := Kd.at_int HR0.out x11_1 p201 q201
     cases e201
     replace p201 := eq_true p201; replace q201 := eq_true q201
     go_wp2_with (first | ((with_reducible refine gC (f := 22) rfl ?_); refine goesL_ (some 18) rfl rfl Try.func22 kR rfl #[.int .i64 (rd l0 x11_1), .int .i64 a1, .int .i64 a2] rfl sQ ?_; (with_reducible refine (spec_l1In.calls (rd l0 x11_1) a1 a2 false _ A7.out).mono ?_); rintro e w' ⟨rfl, ⟨nd, rfl⟩⟩; refine ⟨_, rfl, ?_⟩))
     go_ret
     exact ⟨eQ, dQ⟩
   ·rw [if_neg c4] at H; have c4b0 := decide_eq_false c4; clear c4; obtain rfl := Option.some.inj H; go_wp2
    go_ret
    exact ⟨eQ, dQ⟩

def spec_mvGood.f (k : Nat) (a0_0 : Int) (a0_1 : Int) (a0_2 : Int) (a0_3 : Int) (a0_4 : Int) (a0_5 : Int) : Option (Bool) := (spec_l1All.f k (([a0_0, a0_1, a0_2, a0_3] : List Int)) (-20) 20).bind fun t207 => (if t207 = true then ((spec_l1All.f k (([a0_4, a0_5] : List Int)) (-80) 80).bind fun t211 => (if t211 = true then ((spec_l1Abs.f (wrap64 ((wrap64 (a0_0 * a0_3)) - (wrap64 (a0_1 * a0_2))))).bind fun t212 => (some (t212 == 1))) else (some false))) else (some false))
theorem spec_mvGood.mono : ∀ a0 a1 a2 a3 a4 a5 k, LeO (spec_mvGood.f k a0 a1 a2 a3 a4 a5) (spec_mvGood.f (k + 1) a0 a1 a2 a3 a4 a5) := by
 intro a0 a1 a2 a3 a4 a5 k
 unfold spec_mvGood.f
 repeat' first | (with_reducible exact spec_l1All.mono _ _ _ _) | (with_reducible exact LeO.refl _) | (with_reducible exact LeO.none _) | (with_reducible refine LeO.ite ?_ ?_) | (with_reducible refine LeO.bind ?_ (fun _ => ?_)) | exact spec_l1All.mono _ _ _ _ | exact LeO.none _ | refine LeO.ite ?_ ?_ | refine LeO.bind ?_ (fun _ => ?_)
set_option maxHeartbeats 8000000 in
set_option maxRecDepth 100000 in
theorem spec_mvGood.calls (k : Nat) (a0_0 : Int) (a0_1 : Int) (a0_2 : Int) (a0_3 : Int) (a0_4 : Int) (a0_5 : Int) (r : Bool) (w : World) (h : spec_mvGood.f k a0_0 a0_1 a0_2 a0_3 a0_4 a0_5 = some r) :
  Calls Try.prog 28 #[.agg #[.int .i64 a0_0, .int .i64 a0_1, .int .i64 a0_2, .int .i64 a0_3, .int .i64 a0_4, .int .i64 a0_5]] w fun e w' => e = .returned (.bool r) ∧ Below w.heap.size w w' := by
 have hu25 := Try.underlying25; have HB := aM (Below.refl w.heap.size w)
 unfold spec_mvGood.f at h; have H := h; clear h
 obtain ⟨y204, hy204⟩ : ∃ y_ : List Int, y_ = (([a0_0, a0_1, a0_2, a0_3] : List Int)) := ⟨_, rfl⟩; rw [← hy204] at H; have Ny204 := aM hy204; clear hy204; replace H := bS H; obtain ⟨t207, A2, H⟩ := H
 by_cases c3 : t207 = true
 ·subst c3; replace H := iT H; obtain ⟨y208, hy208⟩ : ∃ y_ : List Int, y_ = (([a0_4, a0_5] : List Int)) := ⟨_, rfl⟩; rw [← hy208] at H; have Ny208 := aM hy208; clear hy208; replace H := bS H; obtain ⟨t211, A4, H⟩ := H
  by_cases c5 : t211 = true
  ·subst c5; replace H := iT H; replace H := bS H; obtain ⟨t212, A6, H⟩ := H; obtain rfl := Option.some.inj H
   go_enter Try.func28, Try.ntmps28
   go_wp2_with (first | ((with_reducible refine gate_dst (N := 1) rfl ?_); (try (refine gate_guard (by rfl) ?_; dsimp only)); refine bV 1 (cs := #[.int .i64 a0_0, .int .i64 a0_1, .int .i64 a0_2, .int .i64 a0_3, .int .i64 a0_4, .int .i64 a0_5]) (t := 25) rfl rfl (by first | (go_simp; done) | (go_simp; rfl)) ?_; intro gb203 hg w7 hbox hb; have BK203 := hbox; have GW203 := gZ HB hg; have GE203 := gZ HB hg; replace HB := tB HB hb; clear hb hbox hg; have hcz8_0 := vZ0 BK203; have hcz8_1 := vZ1 BK203; have hcz8_2 := vZ2 BK203; have hcz8_3 := vZ3 BK203; have hcz8_4 := vZ4 BK203; have hcz8_5 := vZ5 BK203; have hfz8_0 := kF BK203.out 0; have hfz8_1 := kF BK203.out 1; have hfz8_2 := kF BK203.out 2; have hfz8_3 := kF BK203.out 3; have hfz8_4 := kF BK203.out 4; have hfz8_5 := kF BK203.out 5) | ((with_reducible refine gate_dst (N := 11) rfl ?_); (try (refine gate_guard (by rfl) ?_; dsimp only)); refine Kd.R_lit (Kd.int .i64) _ 3 ?hg (N := 11) ?hd (xs := ([a0_0, a0_1, a0_2, a0_3] : List Int)) (inner := [.int .i64 a0_0, .int .i64 a0_1, .int .i64 a0_2, .int .i64 a0_3]) (ok := fun _ => True) (okp := fun _ => True) ?hr ?hp (fun _ hk => hk) trivial (Below.refl _ _) (Nat.le_refl _) (by simp) ?_; (case hd => rfl); (case hg => rfl); (case hr => first | (go_simp; done) | (go_simp; rfl)); (case hp => exact (Reps.one (show Kd.M (Kd.int .i64) _ _ _ a0_0 [.int .i64 a0_0] from rfl) (Reps.one (show Kd.M (Kd.int .i64) _ _ _ a0_1 [.int .i64 a0_1] from rfl) (Reps.one (show Kd.M (Kd.int .i64) _ _ _ a0_2 [.int .i64 a0_2] from rfl) (Reps.one (show Kd.M (Kd.int .i64) _ _ _ a0_3 [.int .i64 a0_3] from rfl) (Reps.none _ _)))))); intro v205 w9 ho10 hb hg_ hnew_; clear hg_ hnew_; (first | rw [← Ny204.out] at ho10 | (simp only [Int.reduceToNat] at ho10; rw [← Ny204.out] at ho10)); have HO206 := aM (Kd.R_lower ho10 (pZ bE)); replace BK203 := bB BK203 hb; replace HB := tB HB hb; clear hb ho10; obtain ⟨Ao11, co11, eo11⟩ := Kd.R_slice HO206.out; subst eo11) | ((with_reducible refine gC (f := 43) rfl ?_); refine goesL_ (some 12) rfl rfl Try.func43 kR rfl #[.slice Ao11 y204.length co11, .int .i64 (-20), .int .i64 20] rfl sQ ?_; (with_reducible refine (spec_l1All.calls k _ _ y204 (-20) 20 true _ ?side1 ?side2 A2.out).mono ?_); (case side1 => repeat (first | exact (rR HO206.out).2.2 | (with_reducible refine cA ?_ _) | (with_reducible refine cN ?_ _) | (with_reducible refine cD ?_))); (case side2 => exact (rR HO206.out).2.1); rintro e w' ⟨rfl, ⟨nd, rfl⟩⟩; refine ⟨_, rfl, ?_⟩; have hcz12_0 := vZ0 BK203; have hcz12_1 := vZ1 BK203; have hcz12_2 := vZ2 BK203; have hcz12_3 := vZ3 BK203; have hcz12_4 := vZ4 BK203; have hcz12_5 := vZ5 BK203; have hfz12_0 := kF BK203.out 0; have hfz12_1 := kF BK203.out 1; have hfz12_2 := kF BK203.out 2; have hfz12_3 := kF BK203.out 3; have hfz12_4 := kF BK203.out 4; have hfz12_5 := kF BK203.out 5) | ((with_reducible refine gate_dst (N := 18) rfl ?_); (try (refine gate_guard (by rfl) ?_; dsimp only)); refine Kd.R_lit (Kd.int .i64) _ 3 ?hg (N := 18) ?hd (xs := ([a0_4, a0_5] : List Int)) (inner := [.int .i64 a0_4, .int .i64 a0_5]) (ok := fun _ => True) (okp := fun _ => True) ?hr ?hp (fun _ hk => hk) trivial (Below.refl _ _) (Nat.le_refl _) (by simp) ?_; (case hd => rfl); (case hg => rfl); (case hr => first | (go_simp; done) | (go_simp; rfl)); (case hp => exact (Reps.one (show Kd.M (Kd.int .i64) _ _ _ a0_4 [.int .i64 a0_4] from rfl) (Reps.one (show Kd.M (Kd.int .i64) _ _ _ a0_5 [.int .i64 a0_5] from rfl) (Reps.none _ _)))); intro v209 w13 ho14 hb hg_ hnew_; clear hg_ hnew_; (first | rw [← Ny208.out] at ho14 | (simp only [Int.reduceToNat] at ho14; rw [← Ny208.out] at ho14)); have HO210 := aM (Kd.R_lower (Kd.R_new' ho14 (Kd.R_lt (by (with_reducible repeat (first | apply rA | apply rN | apply rD)); exact HO206.out))) (pZ bE)); replace HO206 := aM (Kd.R_elder' (by (with_reducible repeat (first | apply rA | apply rN | apply rD)); exact HO206.out) (Kd.R_base ho14) hb); replace BK203 := bB BK203 hb; replace HB := tB HB hb; clear hb ho14; obtain ⟨Ao15, co15, eo15⟩ := Kd.R_slice HO210.out; subst eo15) | (go_at_call 43; (with_reducible refine (spec_l1All.calls k _ _ y208 (-80) 80 true _ ?side1 ?side2 A4.out).mono ?_); (case side1 => repeat (first | exact (rR HO210.out).2.2 | (with_reducible refine cA ?_ _) | (with_reducible refine cN ?_ _) | (with_reducible refine cD ?_))); (case side2 => exact (rR HO210.out).2.1); rintro e w' ⟨rfl, ⟨nd, rfl⟩⟩; have hcz16_0 := vZ0 BK203; have hcz16_1 := vZ1 BK203; have hcz16_2 := vZ2 BK203; have hcz16_3 := vZ3 BK203; have hcz16_4 := vZ4 BK203; have hcz16_5 := vZ5 BK203; have hfz16_0 := kF BK203.out 0; have hfz16_1 := kF BK203.out 1; have hfz16_2 := kF BK203.out 2; have hfz16_3 := kF BK203.out 3; have hfz16_4 := kF BK203.out 4; have hfz16_5 := kF BK203.out 5) | (go_at_call 26; (with_reducible refine (spec_l1Abs.calls (wrap64 ((wrap64 (a0_0 * a0_3)) - (wrap64 (a0_1 * a0_2)))) t212 _ A6.out).mono ?_); rintro e w' ⟨rfl, ⟨nd, rfl⟩⟩))
   go_ret
   exact ⟨wQ, bE⟩
  ·replace c5 := Bool.eq_false_iff.mpr c5; subst c5; replace H := iF H; obtain rfl := Option.some.inj H
   go_enter Try.func28, Try.ntmps28
   go_wp2_with (first | ((with_reducible refine gate_dst (N := 1) rfl ?_); (try (refine gate_guard (by rfl) ?_; dsimp only)); refine bV 1 (cs := #[.int .i64 a0_0, .int .i64 a0_1, .int .i64 a0_2, .int .i64 a0_3, .int .i64 a0_4, .int .i64 a0_5]) (t := 25) rfl rfl (by first | (go_simp; done) | (go_simp; rfl)) ?_; intro gb203 hg w17 hbox hb; have BK203 := hbox; have GW203 := gZ HB hg; have GE203 := gZ HB hg; replace HB := tB HB hb; clear hb hbox hg; have hcz18_0 := vZ0 BK203; have hcz18_1 := vZ1 BK203; have hcz18_2 := vZ2 BK203; have hcz18_3 := vZ3 BK203; have hcz18_4 := vZ4 BK203; have hcz18_5 := vZ5 BK203; have hfz18_0 := kF BK203.out 0; have hfz18_1 := kF BK203.out 1; have hfz18_2 := kF BK203.out 2; have hfz18_3 := kF BK203.out 3; have hfz18_4 := kF BK203.out 4; have hfz18_5 := kF BK203.out 5) | ((with_reducible refine gate_dst (N := 11) rfl ?_); (try (refine gate_guard (by rfl) ?_; dsimp only)); refine Kd.R_lit (Kd.int .i64) _ 3 ?hg (N := 11) ?hd (xs := ([a0_0, a0_1, a0_2, a0_3] : List Int)) (inner := [.int .i64 a0_0, .int .i64 a0_1, .int .i64 a0_2, .int .i64 a0_3]) (ok := fun _ => True) (okp := fun _ => True) ?hr ?hp (fun _ hk => hk) trivial (Below.refl _ _) (Nat.le_refl _) (by simp) ?_; (case hd => rfl); (case hg => rfl); (case hr => first | (go_simp; done) | (go_simp; rfl)); (case hp => exact (Reps.one (show Kd.M (Kd.int .i64) _ _ _ a0_0 [.int .i64 a0_0] from rfl) (Reps.one (show Kd.M (Kd.int .i64) _ _ _ a0_1 [.int .i64 a0_1] from rfl) (Reps.one (show Kd.M (Kd.int .i64) _ _ _ a0_2 [.int .i64 a0_2] from rfl) (Reps.one (show Kd.M (Kd.int .i64) _ _ _ a0_3 [.int .i64 a0_3] from rfl) (Reps.none _ _)))))); intro v205 w19 ho20 hb hg_ hnew_; clear hg_ hnew_; (first | rw [← Ny204.out] at ho20 | (simp only [Int.reduceToNat] at ho20; rw [← Ny204.out] at ho20)); have HO206 := aM (Kd.R_lower ho20 (pZ bE)); replace BK203 := bB BK203 hb; replace HB := tB HB hb; clear hb ho20; obtain ⟨Ao21, co21, eo21⟩ := Kd.R_slice HO206.out; subst eo21) | ((with_reducible refine gC (f := 43) rfl ?_); refine goesL_ (some 12) rfl rfl Try.func43 kR rfl #[.slice Ao21 y204.length co21, .int .i64 (-20), .int .i64 20] rfl sQ ?_; (with_reducible refine (spec_l1All.calls k _ _ y204 (-20) 20 true _ ?side1 ?side2 A2.out).mono ?_); (case side1 => repeat (first | exact (rR HO206.out).2.2 | (with_reducible refine cA ?_ _) | (with_reducible refine cN ?_ _) | (with_reducible refine cD ?_))); (case side2 => exact (rR HO206.out).2.1); rintro e w' ⟨rfl, ⟨nd, rfl⟩⟩; refine ⟨_, rfl, ?_⟩; have hcz22_0 := vZ0 BK203; have hcz22_1 := vZ1 BK203; have hcz22_2 := vZ2 BK203; have hcz22_3 := vZ3 BK203; have hcz22_4 := vZ4 BK203; have hcz22_5 := vZ5 BK203; have hfz22_0 := kF BK203.out 0; have hfz22_1 := kF BK203.out 1; have hfz22_2 := kF BK203.out 2; have hfz22_3 := kF BK203.out 3; have hfz22_4 := kF BK203.out 4; have hfz22_5 := kF BK203.out 5) | ((with_reducible refine gate_dst (N := 18) rfl ?_); (try (refine gate_guard (by rfl) ?_; dsimp only)); refine Kd.R_lit (Kd.int .i64) _ 3 ?hg (N := 18) ?hd (xs := ([a0_4, a0_5] : List Int)) (inner := [.int .i64 a0_4, .int .i64 a0_5]) (ok := fun _ => True) (okp := fun _ => True) ?hr ?hp (fun _ hk => hk) trivial (Below.refl _ _) (Nat.le_refl _) (by simp) ?_; (case hd => rfl); (case hg => rfl); (case hr => first | (go_simp; done) | (go_simp; rfl)); (case hp => exact (Reps.one (show Kd.M (Kd.int .i64) _ _ _ a0_4 [.int .i64 a0_4] from rfl) (Reps.one (show Kd.M (Kd.int .i64) _ _ _ a0_5 [.int .i64 a0_5] from rfl) (Reps.none _ _)))); intro v209 w23 ho24 hb hg_ hnew_; clear hg_ hnew_; (first | rw [← Ny208.out] at ho24 | (simp only [Int.reduceToNat] at ho24; rw [← Ny208.out] at ho24)); have HO210 := aM (Kd.R_lower (Kd.R_new' ho24 (Kd.R_lt (by (with_reducible repeat (first | apply rA | apply rN | apply rD)); exact HO206.out))) (pZ bE)); replace HO206 := aM (Kd.R_elder' (by (with_reducible repeat (first | apply rA | apply rN | apply rD)); exact HO206.out) (Kd.R_base ho24) hb); replace BK203 := bB BK203 hb; replace HB := tB HB hb; clear hb ho24; obtain ⟨Ao25, co25, eo25⟩ := Kd.R_slice HO210.out; subst eo25) | (go_at_call 43; (with_reducible refine (spec_l1All.calls k _ _ y208 (-80) 80 false _ ?side1 ?side2 A4.out).mono ?_); (case side1 => repeat (first | exact (rR HO210.out).2.2 | (with_reducible refine cA ?_ _) | (with_reducible refine cN ?_ _) | (with_reducible refine cD ?_))); (case side2 => exact (rR HO210.out).2.1); rintro e w' ⟨rfl, ⟨nd, rfl⟩⟩))
   go_ret
   exact ⟨wQ, bE⟩
 ·replace c3 := Bool.eq_false_iff.mpr c3; subst c3; replace H := iF H; obtain rfl := Option.some.inj H
  go_enter Try.func28, Try.ntmps28
  go_wp2_with (first | ((with_reducible refine gate_dst (N := 1) rfl ?_); (try (refine gate_guard (by rfl) ?_; dsimp only)); refine bV 1 (cs := #[.int .i64 a0_0, .int .i64 a0_1, .int .i64 a0_2, .int .i64 a0_3, .int .i64 a0_4, .int .i64 a0_5]) (t := 25) rfl rfl (by first | (go_simp; done) | (go_simp; rfl)) ?_; intro gb203 hg w26 hbox hb; have BK203 := hbox; have GW203 := gZ HB hg; have GE203 := gZ HB hg; replace HB := tB HB hb; clear hb hbox hg; have hcz27_0 := vZ0 BK203; have hcz27_1 := vZ1 BK203; have hcz27_2 := vZ2 BK203; have hcz27_3 := vZ3 BK203; have hcz27_4 := vZ4 BK203; have hcz27_5 := vZ5 BK203; have hfz27_0 := kF BK203.out 0; have hfz27_1 := kF BK203.out 1; have hfz27_2 := kF BK203.out 2; have hfz27_3 := kF BK203.out 3; have hfz27_4 := kF BK203.out 4; have hfz27_5 := kF BK203.out 5) | ((with_reducible refine gate_dst (N := 11) rfl ?_); (try (refine gate_guard (by rfl) ?_; dsimp only)); refine Kd.R_lit (Kd.int .i64) _ 3 ?hg (N := 11) ?hd (xs := ([a0_0, a0_1, a0_2, a0_3] : List Int)) (inner := [.int .i64 a0_0, .int .i64 a0_1, .int .i64 a0_2, .int .i64 a0_3]) (ok := fun _ => True) (okp := fun _ => True) ?hr ?hp (fun _ hk => hk) trivial (Below.refl _ _) (Nat.le_refl _) (by simp) ?_; (case hd => rfl); (case hg => rfl); (case hr => first | (go_simp; done) | (go_simp; rfl)); (case hp => exact (Reps.one (show Kd.M (Kd.int .i64) _ _ _ a0_0 [.int .i64 a0_0] from rfl) (Reps.one (show Kd.M (Kd.int .i64) _ _ _ a0_1 [.int .i64 a0_1] from rfl) (Reps.one (show Kd.M (Kd.int .i64) _ _ _ a0_2 [.int .i64 a0_2] from rfl) (Reps.one (show Kd.M (Kd.int .i64) _ _ _ a0_3 [.int .i64 a0_3] from rfl) (Reps.none _ _)))))); intro v205 w28 ho29 hb hg_ hnew_; clear hg_ hnew_; (first | rw [← Ny204.out] at ho29 | (simp only [Int.reduceToNat] at ho29; rw [← Ny204.out] at ho29)); have HO206 := aM (Kd.R_lower ho29 (pZ bE)); replace BK203 := bB BK203 hb; replace HB := tB HB hb; clear hb ho29; obtain ⟨Ao30, co30, eo30⟩ := Kd.R_slice HO206.out; subst eo30) | ((with_reducible refine gC (f := 43) rfl ?_); refine goesL_ (some 12) rfl rfl Try.func43 kR rfl #[.slice Ao30 y204.length co30, .int .i64 (-20), .int .i64 20] rfl sQ ?_; (with_reducible refine (spec_l1All.calls k _ _ y204 (-20) 20 false _ ?side1 ?side2 A2.out).mono ?_); (case side1 => repeat (first | exact (rR HO206.out).2.2 | (with_reducible refine cA ?_ _) | (with_reducible refine cN ?_ _) | (with_reducible refine cD ?_))); (case side2 => exact (rR HO206.out).2.1); rintro e w' ⟨rfl, ⟨nd, rfl⟩⟩; refine ⟨_, rfl, ?_⟩))
  go_ret
  exact ⟨wQ, bE⟩

def spec_mvIf.f (k : Nat) (a0_0 : Int) (a0_1 : Int) (a0_2 : Int) (a0_3 : Int) (a0_4 : Int) (a0_5 : Int) : Option (Int × Int × Int × Int × Int × Int × Bool) := (spec_mvGood.f k a0_0 a0_1 a0_2 a0_3 a0_4 a0_5).bind fun t215 => (if t215 = true then (some (a0_0, a0_1, a0_2, a0_3, a0_4, a0_5, true)) else (some (0, 0, 0, 0, 0, 0, false)))
theorem spec_mvIf.mono : ∀ a0 a1 a2 a3 a4 a5 k, LeO (spec_mvIf.f k a0 a1 a2 a3 a4 a5) (spec_mvIf.f (k + 1) a0 a1 a2 a3 a4 a5) := by
 intro a0 a1 a2 a3 a4 a5 k
 unfold spec_mvIf.f
 repeat' first | (with_reducible exact spec_mvGood.mono _ _ _ _ _ _ _) | (with_reducible exact LeO.refl _) | (with_reducible exact LeO.none _) | (with_reducible refine LeO.ite ?_ ?_) | (with_reducible refine LeO.bind ?_ (fun _ => ?_)) | exact spec_mvGood.mono _ _ _ _ _ _ _ | exact LeO.none _ | refine LeO.ite ?_ ?_ | refine LeO.bind ?_ (fun _ => ?_)
set_option maxHeartbeats 8000000 in
set_option maxRecDepth 100000 in
theorem spec_mvIf.calls (k : Nat) (a0_0 : Int) (a0_1 : Int) (a0_2 : Int) (a0_3 : Int) (a0_4 : Int) (a0_5 : Int) (r1 : Int) (r2 : Int) (r3 : Int) (r4 : Int) (r5 : Int) (r6 : Int) (r7 : Bool) (w : World) (h : spec_mvIf.f k a0_0 a0_1 a0_2 a0_3 a0_4 a0_5 = some (r1, r2, r3, r4, r5, r6, r7)) :
  Calls Try.prog 13 #[.agg #[.int .i64 a0_0, .int .i64 a0_1, .int .i64 a0_2, .int .i64 a0_3, .int .i64 a0_4, .int .i64 a0_5]] w fun e w' => e = .returned (.tuple #[.agg #[.int .i64 r1, .int .i64 r2, .int .i64 r3, .int .i64 r4, .int .i64 r5, .int .i64 r6], .bool r7]) ∧ Below w.heap.size w w' := by
 have hu25 := Try.underlying25; have HB := aM (Below.refl w.heap.size w)
 unfold spec_mvIf.f at h; have H := h; clear h
 replace H := bS H; obtain ⟨t215, A2, H⟩ := H
 by_cases c3 : t215 = true
 ·subst c3; replace H := iT H
  simp only [Option.some.injEq, Prod.mk.injEq] at H
  obtain ⟨rfl, rfl, rfl, rfl, rfl, rfl, rfl⟩ := H
  go_enter Try.func13, Try.ntmps13
  go_wp2_with (first | ((with_reducible refine gate_dst (N := 1) rfl ?_); refine bV 1 (cs := #[.int .i64 a0_0, .int .i64 a0_1, .int .i64 a0_2, .int .i64 a0_3, .int .i64 a0_4, .int .i64 a0_5]) (t := 25) rfl rfl (by first | (go_simp; done) | (go_simp; rfl)) ?_; intro gb213 hg w4 hbox hb; have BK213 := hbox; have GW213 := gZ HB hg; have GE213 := gZ HB hg; replace HB := tB HB hb; clear hb hbox hg) | ((with_reducible refine gate_dst (N := 2) rfl ?_); refine bV 2 (cs := #[.int .i64 0, .int .i64 0, .int .i64 0, .int .i64 0, .int .i64 0, .int .i64 0]) (t := 25) rfl rfl (by first | (go_simp; done) | (go_simp; rfl)) ?_; intro gb214 hg w5 hbox hb; have BK214 := hbox; have GW214 := gZ HB hg; have GE214 := gZ HB hg; have NB213_214 := nG BK213 hg; have NB214_213 := nH BK213 hg; replace BK213 := bB BK213 hb; replace HB := tB HB hb; clear hb hbox hg; have hnb6 := NB213_214.out; have hnc6 := NB214_213.out; have hcz7_0 := vZ0 BK213; have hcz7_1 := vZ1 BK213; have hcz7_2 := vZ2 BK213; have hcz7_3 := vZ3 BK213; have hcz7_4 := vZ4 BK213; have hcz7_5 := vZ5 BK213; have hfz7_0 := kF BK213.out 0; have hfz7_1 := kF BK213.out 1; have hfz7_2 := kF BK213.out 2; have hfz7_3 := kF BK213.out 3; have hfz7_4 := kF BK213.out 4; have hfz7_5 := kF BK213.out 5) | ((with_reducible refine gC (f := 28) rfl ?_); refine goesL_ (some 5) rfl rfl Try.func28 kR rfl #[.agg #[.int .i64 a0_0, .int .i64 a0_1, .int .i64 a0_2, .int .i64 a0_3, .int .i64 a0_4, .int .i64 a0_5]] rfl sQ ?_; (with_reducible refine (spec_mvGood.calls k a0_0 a0_1 a0_2 a0_3 a0_4 a0_5 true _ A2.out).mono ?_); rintro e w8 ⟨rfl, hb⟩; refine ⟨_, rfl, ?_⟩; replace BK213 := bB BK213 hb; replace BK214 := bB BK214 hb; replace HB := tB HB hb; (try clear hb); (try clear hb2); (try clear hk); (try clear hi); have hcz9_0 := vZ0 BK213; have hcz9_1 := vZ1 BK213; have hcz9_2 := vZ2 BK213; have hcz9_3 := vZ3 BK213; have hcz9_4 := vZ4 BK213; have hcz9_5 := vZ5 BK213; have hfz9_0 := kF BK213.out 0; have hfz9_1 := kF BK213.out 1; have hfz9_2 := kF BK213.out 2; have hfz9_3 := kF BK213.out 3; have hfz9_4 := kF BK213.out 4; have hfz9_5 := kF BK213.out 5; have hcz10_0 := vZ0 BK214; have hcz10_1 := vZ1 BK214; have hcz10_2 := vZ2 BK214; have hcz10_3 := vZ3 BK214; have hcz10_4 := vZ4 BK214; have hcz10_5 := vZ5 BK214; have hfz10_0 := kF BK214.out 0; have hfz10_1 := kF BK214.out 1; have hfz10_2 := kF BK214.out 2; have hfz10_3 := kF BK214.out 3; have hfz10_4 := kF BK214.out 4; have hfz10_5 := kF BK214.out 5))
  refine bodyPost_ret (results_ct rfl _ _ gb214 25 #[.int .i64 a0_0, .int .i64 a0_1, .int .i64 a0_2, .int .i64 a0_3, .int .i64 a0_4, .int .i64 a0_5] (0, 0) _ rfl (fQ BK214) Try.underlying25 rfl kR) rfl ?_
  exact ⟨wQ, bE⟩
 ·replace c3 := Bool.eq_false_iff.mpr c3; subst c3; replace H := iF H
  simp only [Option.some.injEq, Prod.mk.injEq] at H
  obtain ⟨rfl, rfl, rfl, rfl, rfl, rfl, rfl⟩ := H
  go_enter Try.func13, Try.ntmps13
  go_wp2_with (first | ((with_reducible refine gate_dst (N := 1) rfl ?_); refine bV 1 (cs := #[.int .i64 a0_0, .int .i64 a0_1, .int .i64 a0_2, .int .i64 a0_3, .int .i64 a0_4, .int .i64 a0_5]) (t := 25) rfl rfl (by first | (go_simp; done) | (go_simp; rfl)) ?_; intro gb213 hg w11 hbox hb; have BK213 := hbox; have GW213 := gZ HB hg; have GE213 := gZ HB hg; replace HB := tB HB hb; clear hb hbox hg) | ((with_reducible refine gate_dst (N := 2) rfl ?_); refine bV 2 (cs := #[.int .i64 0, .int .i64 0, .int .i64 0, .int .i64 0, .int .i64 0, .int .i64 0]) (t := 25) rfl rfl (by first | (go_simp; done) | (go_simp; rfl)) ?_; intro gb214 hg w12 hbox hb; have BK214 := hbox; have GW214 := gZ HB hg; have GE214 := gZ HB hg; have NB213_214 := nG BK213 hg; have NB214_213 := nH BK213 hg; replace BK213 := bB BK213 hb; replace HB := tB HB hb; clear hb hbox hg; have hnb13 := NB213_214.out; have hnc13 := NB214_213.out; have hcz14_0 := vZ0 BK213; have hcz14_1 := vZ1 BK213; have hcz14_2 := vZ2 BK213; have hcz14_3 := vZ3 BK213; have hcz14_4 := vZ4 BK213; have hcz14_5 := vZ5 BK213; have hfz14_0 := kF BK213.out 0; have hfz14_1 := kF BK213.out 1; have hfz14_2 := kF BK213.out 2; have hfz14_3 := kF BK213.out 3; have hfz14_4 := kF BK213.out 4; have hfz14_5 := kF BK213.out 5) | ((with_reducible refine gC (f := 28) rfl ?_); refine goesL_ (some 5) rfl rfl Try.func28 kR rfl #[.agg #[.int .i64 a0_0, .int .i64 a0_1, .int .i64 a0_2, .int .i64 a0_3, .int .i64 a0_4, .int .i64 a0_5]] rfl sQ ?_; (with_reducible refine (spec_mvGood.calls k a0_0 a0_1 a0_2 a0_3 a0_4 a0_5 false _ A2.out).mono ?_); rintro e w15 ⟨rfl, hb⟩; refine ⟨_, rfl, ?_⟩; replace BK213 := bB BK213 hb; replace BK214 := bB BK214 hb; replace HB := tB HB hb; (try clear hb); (try clear hb2); (try clear hk); (try clear hi); have hcz16_0 := vZ0 BK214; have hcz16_1 := vZ1 BK214; have hcz16_2 := vZ2 BK214; have hcz16_3 := vZ3 BK214; have hcz16_4 := vZ4 BK214; have hcz16_5 := vZ5 BK214; have hfz16_0 := kF BK214.out 0; have hfz16_1 := kF BK214.out 1; have hfz16_2 := kF BK214.out 2; have hfz16_3 := kF BK214.out 3; have hfz16_4 := kF BK214.out 4; have hfz16_5 := kF BK214.out 5))
  refine bodyPost_ret (results_ct rfl _ _ gb214 25 #[.int .i64 0, .int .i64 0, .int .i64 0, .int .i64 0, .int .i64 0, .int .i64 0] (0, 0) _ rfl (fQ BK214) Try.underlying25 rfl kR) rfl ?_
  exact ⟨wQ, bE⟩

end Go.Proofs.Ytphkphjddkjabaa.X
