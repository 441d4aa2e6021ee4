-- thin
-- short
-- compact
import Derived.Test.YtoeclfihlhmnpaaXA
import Derived.Test.YtoeclfihlhmnpaaX0
import Derived.Test.YtoeclfihlhmnpaaX1
import Derived.Test.YtoeclfihlhmnpaaX3
import Derived.Test.YtoeclfihlhmnpaaX16
namespace Go.Proofs.Ytoeclfihlhmnpaa.X
open Go.RowKit Go.Proofs.Ytoeclfihlhmnpaa.XW Go.Proofs.YtoeclfihlhmnpaaW.PrintWords Go.Proofs.YtoeclfihlhmnpaaW.PrintLast Go.Proofs.YtoeclfihlhmnpaaW.PrintMore
attribute [local go_sem] max2_int min2_int max_two min_two max_three min_three max_four min_four   -- for this text's walks alone
set_option linter.unusedVariables false
set_option linter.unusedSimpArgs false

attribute [local go_sem high] eqA41
def slices_IndexFunc_impl_Peg_at_impl_arePegs_1.l0 : Nat → List (S_impl_Peg) → Int → Int → Option (Int)
 | 0, _, _, _ => none
 | k + 1, x0, x7, x8 => if x8 < x7 then (if 0 ≤ x8 then (if x8 < (x0.length : Int) then ((impl_arePegs_1.f ((rd_impl_Peg x0 x8).f0) ((rd_impl_Peg x0 x8).f1)).bind fun t411 => (if t411 = true then (some x8) else (slices_IndexFunc_impl_Peg_at_impl_arePegs_1.l0 k x0 x7 (wrap64 (x8 + 1))))) else (none)) else (none)) else (some (-1))
def slices_IndexFunc_impl_Peg_at_impl_arePegs_1.f (k : Nat) (l0 : List (S_impl_Peg)) : Option (Int) := slices_IndexFunc_impl_Peg_at_impl_arePegs_1.l0 k l0 (l0.length : Int) 0
theorem slices_IndexFunc_impl_Peg_at_impl_arePegs_1.mono_l : ∀ k, (∀ y0 y1 y2, LeO (slices_IndexFunc_impl_Peg_at_impl_arePegs_1.l0 k y0 y1 y2) (slices_IndexFunc_impl_Peg_at_impl_arePegs_1.l0 (k + 1) y0 y1 y2))
 | 0 => fun _ _ _ r h => by simp [slices_IndexFunc_impl_Peg_at_impl_arePegs_1.l0] at h
 | k + 1 => by
  have ih0 := slices_IndexFunc_impl_Peg_at_impl_arePegs_1.mono_l k
  ·intro y0 y1 y2
   unfold slices_IndexFunc_impl_Peg_at_impl_arePegs_1.l0
   repeat' first
   | (with_reducible exact ih0 _ _ _)
   | (with_reducible exact LeO.refl _)
   | (with_reducible exact LeO.none _)
   | (with_reducible refine LeO.ite ?_ ?_)
   | (with_reducible refine LeO.bind ?_ (fun _ => ?_))
   | exact ih0 _ _ _
   | exact LeO.none _
   | refine LeO.ite ?_ ?_
   | refine LeO.bind ?_ (fun _ => ?_)
theorem slices_IndexFunc_impl_Peg_at_impl_arePegs_1.mono : ∀ a0 k, LeO (slices_IndexFunc_impl_Peg_at_impl_arePegs_1.f k a0) (slices_IndexFunc_impl_Peg_at_impl_arePegs_1.f (k + 1) a0) := by
 intro a0 k
 have ih0 := slices_IndexFunc_impl_Peg_at_impl_arePegs_1.mono_l k
 unfold slices_IndexFunc_impl_Peg_at_impl_arePegs_1.f
 repeat' first | (with_reducible exact ih0 _ _ _) | (with_reducible exact LeO.refl _) | (with_reducible exact LeO.none _) | (with_reducible refine LeO.ite ?_ ?_) | (with_reducible refine LeO.bind ?_ (fun _ => ?_)) | exact ih0 _ _ _ | exact LeO.none _ | refine LeO.ite ?_ ?_ | refine LeO.bind ?_ (fun _ => ?_)
set_option maxHeartbeats 8000000 in
set_option maxRecDepth 100000 in
theorem slices_IndexFunc_impl_Peg_at_impl_arePegs_1.calls (k : Nat) (A0 : Option Addr) (c0 : Nat) (l0 : List (S_impl_Peg)) (r : Int) (w : World) (hr0 : Kd.C kd_impl_Peg w A0 l0.length l0) (hc0 : l0.length ≤ c0) (h : slices_IndexFunc_impl_Peg_at_impl_arePegs_1.f k l0 = some r) :
  Calls Try.prog 114 #[.slice A0 l0.length c0, .func (.func 103) #[] #[]] w fun e w' => e = .returned (.int .i64 r) ∧ Below w.heap.size w w' := by
 have hu41 := Try.underlying41; have HR0 := aM hr0; have HC0 := aM hc0; clear hr0 hc0; have HB := aM (Below.refl w.heap.size w)
 unfold slices_IndexFunc_impl_Peg_at_impl_arePegs_1.f at h; have H := h; clear h
 have H' := aM H; clear H
 go_enter Try.func114, Try.ntmps114
 go_wp2
 go_loopg [8] k (fun kq v8 w' => ∃ (x8_1 : Int), v8 = .int .i64 x8_1 ∧ Aside0 (slices_IndexFunc_impl_Peg_at_impl_arePegs_1.l0 kq l0 (l0.length : Int) x8_1 = some r) ∧ Aside0 (kq ≤ k) ∧ Aside0 (Below w.heap.size w w'))
 case atStart => exact ⟨(0), eQ, H', ⟨Nat.le_refl _⟩, ⟨bQ⟩⟩
 case round =>
  clear H'; obtain ⟨x8_1, rfl, HA, HK1, HB⟩ := hrel
  cases gk with
  | zero => exact absurd HA.out (by simp [slices_IndexFunc_impl_Peg_at_impl_arePegs_1.l0])
  | succ k1 =>
   have H := HA.out; clear HA
   simp only [slices_IndexFunc_impl_Peg_at_impl_arePegs_1.l0] at H
   by_cases c2 : x8_1 < (l0.length : Int)
   ·rw [if_pos c2] at H; have c2b0 := dE c2; clear c2; replace H := iD H; obtain ⟨c3b0, H⟩ := H; replace H := iD H; obtain ⟨c4b0, H⟩ := H; replace H := bS H; obtain ⟨t411, A5, H⟩ := H
    by_cases c6 : t411 = true
    ·subst c6; replace H := iT H; obtain rfl := Option.some.inj H; have p410 : 0 ≤ (x8_1 : Int) := dT aQ; have q410 : x8_1 < (l0.length : Int) := dT aQ; obtain ⟨ad410, e410, hx410_0, hx410_1⟩ := at_impl_Peg HR0.out x8_1 p410 q410
     cases e410
     replace hx410_0 := hC HB hx410_0; replace hx410_1 := hC HB hx410_1; replace p410 := eq_true p410; replace q410 := eq_true q410
     go_wp2_with (first | ((with_reducible refine gate_tmp rfl ?_); refine goesLT_ (some 16) rfl rfl Try.func103 kR rfl #[.agg #[.int .i64 ((rd_impl_Peg l0 x8_1).f0), .int .i64 ((rd_impl_Peg l0 x8_1).f1)]] rfl (by first | rfl | (simp [Act.eval]; done)) sQ ?_; (with_reducible refine (impl_arePegs_1.calls ((rd_impl_Peg l0 x8_1).f0) ((rd_impl_Peg l0 x8_1).f1) true _ A5.out).mono ?_); rintro e w7 ⟨rfl, hb⟩; refine ⟨_, rfl, ?_⟩; replace HB := tB HB hb; (try clear hb); (try clear hb2); (try clear hk); (try clear hi)))
     go_ret
     exact ⟨wQ, bQ⟩
    ·replace c6 := Bool.eq_false_iff.mpr c6; subst c6; replace H := iF H; have H' := aM H; clear H; have p410 : 0 ≤ (x8_1 : Int) := dT aQ; have q410 : x8_1 < (l0.length : Int) := dT aQ; obtain ⟨ad410, e410, hx410_0, hx410_1⟩ := at_impl_Peg HR0.out x8_1 p410 q410
     cases e410
     replace hx410_0 := hC HB hx410_0; replace hx410_1 := hC HB hx410_1; replace p410 := eq_true p410; replace q410 := eq_true q410
     go_wp2_with (first | ((with_reducible refine gate_tmp rfl ?_); refine goesLT_ (some 16) rfl rfl Try.func103 kR rfl #[.agg #[.int .i64 ((rd_impl_Peg l0 x8_1).f0), .int .i64 ((rd_impl_Peg l0 x8_1).f1)]] rfl (by first | rfl | (simp [Act.eval]; done)) sQ ?_; (with_reducible refine (impl_arePegs_1.calls ((rd_impl_Peg l0 x8_1).f0) ((rd_impl_Peg l0 x8_1).f1) false _ A5.out).mono ?_); rintro e w8 ⟨rfl, hb⟩; refine ⟨_, rfl, ?_⟩; replace HB := tB HB hb; (try clear hb); (try clear hb2); (try clear hk); (try clear hi)))
     go_roundg k1
     case measure => have := HK1.out; omega
     case rel => exact ⟨(wrap64 (x8_1 + 1)), eQ, H', ⟨by have := HK1.out; omega⟩, ⟨bQ⟩⟩
   ·rw [if_neg c2] at H; have c2b0 := decide_eq_false c2; clear c2; obtain rfl := Option.some.inj H; go_wp2
    go_ret
    exact ⟨wQ, bQ⟩

def slices_ContainsFunc_impl_Peg_at_impl_arePegs_1.f (k : Nat) (l0 : List (S_impl_Peg)) : Option (Bool) := (slices_IndexFunc_impl_Peg_at_impl_arePegs_1.f k l0).bind fun t412 => (some (decide (t412 ≥ 0)))
theorem slices_ContainsFunc_impl_Peg_at_impl_arePegs_1.mono : ∀ a0 k, LeO (slices_ContainsFunc_impl_Peg_at_impl_arePegs_1.f k a0) (slices_ContainsFunc_impl_Peg_at_impl_arePegs_1.f (k + 1) a0) := by
 intro a0 k
 unfold slices_ContainsFunc_impl_Peg_at_impl_arePegs_1.f
 repeat' first | (with_reducible exact slices_IndexFunc_impl_Peg_at_impl_arePegs_1.mono _ _) | (with_reducible exact LeO.refl _) | (with_reducible exact LeO.none _) | (with_reducible refine LeO.ite ?_ ?_) | (with_reducible refine LeO.bind ?_ (fun _ => ?_)) | exact slices_IndexFunc_impl_Peg_at_impl_arePegs_1.mono _ _ | exact LeO.none _ | refine LeO.ite ?_ ?_ | refine LeO.bind ?_ (fun _ => ?_)
set_option maxHeartbeats 8000000 in
set_option maxRecDepth 100000 in
theorem slices_ContainsFunc_impl_Peg_at_impl_arePegs_1.calls (k : Nat) (A0 : Option Addr) (c0 : Nat) (l0 : List (S_impl_Peg)) (r : Bool) (w : World) (hr0 : Kd.C kd_impl_Peg w A0 l0.length l0) (hc0 : l0.length ≤ c0) (h : slices_ContainsFunc_impl_Peg_at_impl_arePegs_1.f k l0 = some r) :
  Calls Try.prog 102 #[.slice A0 l0.length c0, .func (.func 103) #[] #[]] w fun e w' => e = .returned (.bool r) ∧ Below w.heap.size w w' := by
 have HR0 := aM hr0; have HC0 := aM hc0; clear hr0 hc0; have HB := aM (Below.refl w.heap.size w)
 unfold slices_ContainsFunc_impl_Peg_at_impl_arePegs_1.f at h; have H := h; clear h
 replace H := bS H; obtain ⟨t412, A2, H⟩ := H; obtain rfl := Option.some.inj H
 go_enter Try.func102, Try.ntmps102
 go_wp2_with (first | ((with_reducible refine gC (f := 114) rfl ?_); refine goesL_ (some 7) rfl rfl Try.func114 kR rfl #[.slice A0 l0.length c0, .func (.func 103) #[] #[]] rfl sQ ?_; (with_reducible refine (slices_IndexFunc_impl_Peg_at_impl_arePegs_1.calls k _ _ l0 t412 _ ?side1 ?side2 A2.out).mono ?_); (case side1 => repeat (first | exact HR0.out | (with_reducible refine cA ?_ _) | (with_reducible refine cN ?_ _) | (with_reducible refine cD ?_))); (case side2 => exact HC0.out); rintro e w3 ⟨rfl, hb⟩; refine ⟨_, rfl, ?_⟩; replace HB := tB HB hb; (try clear hb); (try clear hb2); (try clear hk); (try clear hi)))
 go_ret
 exact ⟨wQ, bQ⟩

def impl_arePegs.f (k : Nat) (l0 : List (S_impl_Peg)) : Option (Bool) := (slices_ContainsFunc_impl_Peg_at_impl_arePegs_1.f k l0).bind fun t413 => (some (!t413))
theorem impl_arePegs.mono : ∀ a0 k, LeO (impl_arePegs.f k a0) (impl_arePegs.f (k + 1) a0) := by
 intro a0 k
 unfold impl_arePegs.f
 repeat' first | (with_reducible exact slices_ContainsFunc_impl_Peg_at_impl_arePegs_1.mono _ _) | (with_reducible exact LeO.refl _) | (with_reducible exact LeO.none _) | (with_reducible refine LeO.ite ?_ ?_) | (with_reducible refine LeO.bind ?_ (fun _ => ?_)) | exact slices_ContainsFunc_impl_Peg_at_impl_arePegs_1.mono _ _ | exact LeO.none _ | refine LeO.ite ?_ ?_ | refine LeO.bind ?_ (fun _ => ?_)
set_option maxHeartbeats 8000000 in
set_option maxRecDepth 100000 in
theorem impl_arePegs.calls (k : Nat) (A0 : Option Addr) (c0 : Nat) (l0 : List (S_impl_Peg)) (r : Bool) (w : World) (hr0 : Kd.C kd_impl_Peg w A0 l0.length l0) (hc0 : l0.length ≤ c0) (h : impl_arePegs.f k l0 = some r) :
  Calls Try.prog 77 #[.slice A0 l0.length c0] w fun e w' => e = .returned (.bool r) ∧ Below w.heap.size w w' := by
 have HR0 := aM hr0; have HC0 := aM hc0; clear hr0 hc0; have HB := aM (Below.refl w.heap.size w)
 unfold impl_arePegs.f at h; have H := h; clear h
 replace H := bS H; obtain ⟨t413, A2, H⟩ := H; obtain rfl := Option.some.inj H
 go_enter Try.func77, Try.ntmps77
 go_wp2_with (first | ((with_reducible refine gC (f := 102) rfl ?_); refine goesL_ (some 4) rfl rfl Try.func102 kR rfl #[.slice A0 l0.length c0, .func (.func 103) #[] #[]] rfl sQ ?_; (with_reducible refine (slices_ContainsFunc_impl_Peg_at_impl_arePegs_1.calls k _ _ l0 t413 _ ?side1 ?side2 A2.out).mono ?_); (case side1 => repeat (first | exact HR0.out | (with_reducible refine cA ?_ _) | (with_reducible refine cN ?_ _) | (with_reducible refine cD ?_))); (case side2 => exact HC0.out); rintro e w3 ⟨rfl, hb⟩; refine ⟨_, rfl, ?_⟩; replace HB := tB HB hb; (try clear hb); (try clear hb2); (try clear hk); (try clear hi)))
 go_ret
 exact ⟨wQ, bQ⟩

def impl_PegsOnLine.f (k : Nat) (a0_0 : Int) (a0_1 : Int) (a1_0 : Int) (a1_1 : Int) : Option (Int × Bool) := (impl_arePegs.f k (([(⟨a0_0, a0_1⟩ : S_impl_Peg), (⟨a1_0, a1_1⟩ : S_impl_Peg)] : List (S_impl_Peg)))).bind fun t419 => (if t419 = true then (if (a0_0 == a1_0 && (a0_1 == a1_1)) = true then (some (0, false)) else ((impl_steps.f k a0_0 a0_1 a1_0 a1_1).bind fun t420 => (some (wrap64 (t420 + 1), true)))) else (some (0, false)))
theorem impl_PegsOnLine.mono : ∀ a0 a1 a2 a3 k, LeO (impl_PegsOnLine.f k a0 a1 a2 a3) (impl_PegsOnLine.f (k + 1) a0 a1 a2 a3) := by
 intro a0 a1 a2 a3 k
 unfold impl_PegsOnLine.f
 repeat' first | (with_reducible exact impl_arePegs.mono _ _) | (with_reducible exact impl_steps.mono _ _ _ _ _) | (with_reducible exact LeO.refl _) | (with_reducible exact LeO.none _) | (with_reducible refine LeO.ite ?_ ?_) | (with_reducible refine LeO.bind ?_ (fun _ => ?_)) | exact impl_arePegs.mono _ _ | exact impl_steps.mono _ _ _ _ _ | exact LeO.none _ | refine LeO.ite ?_ ?_ | refine LeO.bind ?_ (fun _ => ?_)
set_option maxHeartbeats 8000000 in
set_option maxRecDepth 100000 in
theorem impl_PegsOnLine.calls (k : Nat) (a0_0 : Int) (a0_1 : Int) (a1_0 : Int) (a1_1 : Int) (r1 : Int) (r2 : Bool) (w : World) (h : impl_PegsOnLine.f k a0_0 a0_1 a1_0 a1_1 = some (r1, r2)) :
  Calls Try.prog 39 #[.agg #[.int .i64 a0_0, .int .i64 a0_1], .agg #[.int .i64 a1_0, .int .i64 a1_1]] w fun e w' => e = .returned (.tuple #[.int .i64 r1, .bool r2]) ∧ Below w.heap.size w w' := by
 have hu41 := Try.underlying41; have HB := aM (Below.refl w.heap.size w)
 unfold impl_PegsOnLine.f at h; have H := h; clear h
 obtain ⟨y416, hy416⟩ : ∃ y_ : List (S_impl_Peg), y_ = (([(⟨a0_0, a0_1⟩ : S_impl_Peg), (⟨a1_0, a1_1⟩ : S_impl_Peg)] : List (S_impl_Peg))) := ⟨_, rfl⟩; rw [← hy416] at H; have Ny416 := aM hy416; clear hy416; replace H := bS H; obtain ⟨t419, A3, H⟩ := H
 by_cases c4 : t419 = true
 ·subst c4; replace H := iT H
  by_cases c5 : (a0_0 == a1_0 && (a0_1 == a1_1)) = true
  ·rw [if_pos c5] at H; have c5b0 := c5
   (try (have c5b1 : decide (a0_0 = a1_0 && (a0_1 == a1_1)) = true := by simpa using c5))
   (try (have c5b2 : (a0_0 == a1_0 && (a0_1 == a1_1)) = true := by simpa using c5))
   clear c5
   simp only [Option.some.injEq, Prod.mk.injEq] at H
   obtain ⟨rfl, rfl⟩ := H
   go_enter Try.func39, Try.ntmps39
   go_wp2_with (first | ((with_reducible refine gate_dst (N := 2) rfl ?_); refine bV 2 (cs := #[.int .i64 a0_0, .int .i64 a0_1]) (t := 41) rfl rfl (by first | (go_simp; done) | (go_simp; rfl)) ?_; intro gb414 hg w6 hbox hb; have BK414 := hbox; have GW414 := gZ HB hg; have GE414 := gZ HB hg; replace HB := tB HB hb; clear hb hbox hg) | ((with_reducible refine gate_dst (N := 3) rfl ?_); refine bV 3 (cs := #[.int .i64 a1_0, .int .i64 a1_1]) (t := 41) rfl rfl (by first | (go_simp; done) | (go_simp; rfl)) ?_; intro gb415 hg w7 hbox hb; have BK415 := hbox; have GW415 := gZ HB hg; have GE415 := gZ HB hg; have NB414_415 := nG BK414 hg; have NB415_414 := nH BK414 hg; replace BK414 := bB BK414 hb; replace HB := tB HB hb; clear hb hbox hg; have hnb8 := NB414_415.out; have hnc8 := NB415_414.out; have hcz9_0 := vZ0 BK414; have hcz9_1 := vZ1 BK414; have hfz9_0 := kF BK414.out 0; have hfz9_1 := kF BK414.out 1; have hcz10_0 := vZ0 BK415; have hcz10_1 := vZ1 BK415; have hfz10_0 := kF BK415.out 0; have hfz10_1 := kF BK415.out 1) | ((with_reducible refine gate_dst (N := 8) rfl ?_); refine Kd.R_lit kd_impl_Peg _ 41 ?hg (N := 8) ?hd (xs := ([(⟨a0_0, a0_1⟩ : S_impl_Peg), (⟨a1_0, a1_1⟩ : S_impl_Peg)] : List (S_impl_Peg))) (inner := [.int .i64 a0_0, .int .i64 a0_1, .int .i64 a1_0, .int .i64 a1_1]) (ok := fun _ => True) (okp := fun _ => True) ?hr ?hp (fun _ hk => hk) trivial (Below.refl _ _) (Nat.le_refl _) (by simp) ?_; (case hd => rfl); (case hg => rfl); (case hr => first | (go_simp; done) | (go_simp; rfl)); (case hp => exact (Reps.c2 (show Kd.M kd_impl_Peg _ _ _ (⟨a0_0, a0_1⟩ : S_impl_Peg) [.int .i64 a0_0, .int .i64 a0_1] from (kd_impl_Peg_mkM _ _ _ (⟨a0_0, a0_1⟩ : S_impl_Peg) )) (Reps.c2 (show Kd.M kd_impl_Peg _ _ _ (⟨a1_0, a1_1⟩ : S_impl_Peg) [.int .i64 a1_0, .int .i64 a1_1] from (kd_impl_Peg_mkM _ _ _ (⟨a1_0, a1_1⟩ : S_impl_Peg) )) (Reps.none _ _)))); intro v417 w11 ho12 hb hg_ hnew_; clear hg_ hnew_; (first | rw [← Ny416.out] at ho12 | (simp only [Int.reduceToNat] at ho12; rw [← Ny416.out] at ho12)); have HO418 := aM (Kd.R_lower (Kd.R_newB (Kd.R_newB ho12 (g := gb414) (o := .cells #[.int .i64 a0_0, .int .i64 a0_1] 41 (0, 0)) (gQ BK414)) (g := gb415) (o := .cells #[.int .i64 a1_0, .int .i64 a1_1] 41 (0, 0)) (gQ BK415)) (pZ bE)); replace BK414 := bB BK414 hb; replace BK415 := bB BK415 hb; replace HB := tB HB hb; clear hb ho12; obtain ⟨Ao13, co13, eo13⟩ := Kd.R_slice HO418.out; subst eo13) | ((with_reducible refine gC (f := 77) rfl ?_); refine goesL_ (some 9) rfl rfl Try.func77 kR rfl #[.slice Ao13 y416.length co13] rfl sQ ?_; (with_reducible refine (impl_arePegs.calls k _ _ y416 true _ ?side1 ?side2 A3.out).mono ?_); (case side1 => repeat (first | exact (rR HO418.out).2.2 | (with_reducible refine cA ?_ _) | (with_reducible refine cN ?_ _) | (with_reducible refine cD ?_))); (case side2 => exact (rR HO418.out).2.1); rintro e w14 ⟨rfl, hb⟩; refine ⟨_, rfl, ?_⟩; replace HO418 := aM (Kd.R_below (by (with_reducible repeat (first | apply rA | apply rN | apply rD)); exact HO418.out) hb); replace BK414 := bB BK414 hb; replace BK415 := bB BK415 hb; replace HB := tB HB hb; (try clear hb); (try clear hb2); (try clear hk); (try clear hi); have hcz15_0 := vZ0 BK414; have hcz15_1 := vZ1 BK414; have hfz15_0 := kF BK414.out 0; have hfz15_1 := kF BK414.out 1; have hcz16_0 := vZ0 BK415; have hcz16_1 := vZ1 BK415; have hfz16_0 := kF BK415.out 0; have hfz16_1 := kF BK415.out 1))
   go_ret2
   exact ⟨wQ, bE⟩
  ·rw [if_neg c5] at H; have c5b0 : (a0_0 == a1_0 && (a0_1 == a1_1)) = false := by simpa using c5
   (try (have c5b1 : decide (a0_0 = a1_0 && (a0_1 == a1_1)) = false := by simpa using c5))
   (try (have c5b2 : (a0_0 == a1_0 && (a0_1 == a1_1)) = false := by simpa using c5))
   (try (have c5b3 : ¬ (a0_0 = a1_0 && (a0_1 == a1_1)) := by simpa using c5))
   clear c5; replace H := bS H; obtain ⟨t420, A17, H⟩ := H
   simp only [Option.some.injEq, Prod.mk.injEq] at H
   obtain ⟨rfl, rfl⟩ := H
   go_enter Try.func39, Try.ntmps39
   go_wp2_with (first | ((with_reducible refine gate_dst (N := 2) rfl ?_); refine bV 2 (cs := #[.int .i64 a0_0, .int .i64 a0_1]) (t := 41) rfl rfl (by first | (go_simp; done) | (go_simp; rfl)) ?_; intro gb414 hg w18 hbox hb; have BK414 := hbox; have GW414 := gZ HB hg; have GE414 := gZ HB hg; replace HB := tB HB hb; clear hb hbox hg) | ((with_reducible refine gate_dst (N := 3) rfl ?_); refine bV 3 (cs := #[.int .i64 a1_0, .int .i64 a1_1]) (t := 41) rfl rfl (by first | (go_simp; done) | (go_simp; rfl)) ?_; intro gb415 hg w19 hbox hb; have BK415 := hbox; have GW415 := gZ HB hg; have GE415 := gZ HB hg; have NB414_415 := nG BK414 hg; have NB415_414 := nH BK414 hg; replace BK414 := bB BK414 hb; replace HB := tB HB hb; clear hb hbox hg; have hnb20 := NB414_415.out; have hnc20 := NB415_414.out; have hcz21_0 := vZ0 BK414; have hcz21_1 := vZ1 BK414; have hfz21_0 := kF BK414.out 0; have hfz21_1 := kF BK414.out 1; have hcz22_0 := vZ0 BK415; have hcz22_1 := vZ1 BK415; have hfz22_0 := kF BK415.out 0; have hfz22_1 := kF BK415.out 1) | ((with_reducible refine gate_dst (N := 8) rfl ?_); refine Kd.R_lit kd_impl_Peg _ 41 ?hg (N := 8) ?hd (xs := ([(⟨a0_0, a0_1⟩ : S_impl_Peg), (⟨a1_0, a1_1⟩ : S_impl_Peg)] : List (S_impl_Peg))) (inner := [.int .i64 a0_0, .int .i64 a0_1, .int .i64 a1_0, .int .i64 a1_1]) (ok := fun _ => True) (okp := fun _ => True) ?hr ?hp (fun _ hk => hk) trivial (Below.refl _ _) (Nat.le_refl _) (by simp) ?_; (case hd => rfl); (case hg => rfl); (case hr => first | (go_simp; done) | (go_simp; rfl)); (case hp => exact (Reps.c2 (show Kd.M kd_impl_Peg _ _ _ (⟨a0_0, a0_1⟩ : S_impl_Peg) [.int .i64 a0_0, .int .i64 a0_1] from (kd_impl_Peg_mkM _ _ _ (⟨a0_0, a0_1⟩ : S_impl_Peg) )) (Reps.c2 (show Kd.M kd_impl_Peg _ _ _ (⟨a1_0, a1_1⟩ : S_impl_Peg) [.int .i64 a1_0, .int .i64 a1_1] from (kd_impl_Peg_mkM _ _ _ (⟨a1_0, a1_1⟩ : S_impl_Peg) )) (Reps.none _ _)))); intro v417 w23 ho24 hb hg_ hnew_; clear hg_ hnew_; (first | rw [← Ny416.out] at ho24 | (simp only [Int.reduceToNat] at ho24; rw [← Ny416.out] at ho24)); have HO418 := aM (Kd.R_lower (Kd.R_newB (Kd.R_newB ho24 (g := gb414) (o := .cells #[.int .i64 a0_0, .int .i64 a0_1] 41 (0, 0)) (gQ BK414)) (g := gb415) (o := .cells #[.int .i64 a1_0, .int .i64 a1_1] 41 (0, 0)) (gQ BK415)) (pZ bE)); replace BK414 := bB BK414 hb; replace BK415 := bB BK415 hb; replace HB := tB HB hb; clear hb ho24; obtain ⟨Ao25, co25, eo25⟩ := Kd.R_slice HO418.out; subst eo25) | ((with_reducible refine gC (f := 77) rfl ?_); refine goesL_ (some 9) rfl rfl Try.func77 kR rfl #[.slice Ao25 y416.length co25] rfl sQ ?_; (with_reducible refine (impl_arePegs.calls k _ _ y416 true _ ?side1 ?side2 A3.out).mono ?_); (case side1 => repeat (first | exact (rR HO418.out).2.2 | (with_reducible refine cA ?_ _) | (with_reducible refine cN ?_ _) | (with_reducible refine cD ?_))); (case side2 => exact (rR HO418.out).2.1); rintro e w26 ⟨rfl, hb⟩; refine ⟨_, rfl, ?_⟩; replace HO418 := aM (Kd.R_below (by (with_reducible repeat (first | apply rA | apply rN | apply rD)); exact HO418.out) hb); replace BK414 := bB BK414 hb; replace BK415 := bB BK415 hb; replace HB := tB HB hb; (try clear hb); (try clear hb2); (try clear hk); (try clear hi); have hcz27_0 := vZ0 BK414; have hcz27_1 := vZ1 BK414; have hfz27_0 := kF BK414.out 0; have hfz27_1 := kF BK414.out 1; have hcz28_0 := vZ0 BK415; have hcz28_1 := vZ1 BK415; have hfz28_0 := kF BK415.out 0; have hfz28_1 := kF BK415.out 1) | ((with_reducible refine gC (f := 78) rfl ?_); refine goesL_ (some 18) rfl rfl Try.func78 kR rfl #[.agg #[.int .i64 a0_0, .int .i64 a0_1], .agg #[.int .i64 a1_0, .int .i64 a1_1]] rfl sQ ?_; (with_reducible refine (impl_steps.calls k a0_0 a0_1 a1_0 a1_1 t420 _ A17.out).mono ?_); rintro e w29 ⟨rfl, hb⟩; refine ⟨_, rfl, ?_⟩; replace HO418 := aM (Kd.R_below (by (with_reducible repeat (first | apply rA | apply rN | apply rD)); exact HO418.out) hb); replace BK414 := bB BK414 hb; replace BK415 := bB BK415 hb; replace HB := tB HB hb; (try clear hb); (try clear hb2); (try clear hk); (try clear hi)))
   go_ret2
   exact ⟨wQ, bE⟩
 ·replace c4 := Bool.eq_false_iff.mpr c4; subst c4; replace H := iF H
  simp only [Option.some.injEq, Prod.mk.injEq] at H
  obtain ⟨rfl, rfl⟩ := H
  go_enter Try.func39, Try.ntmps39
  go_wp2_with (first | ((with_reducible refine gate_dst (N := 2) rfl ?_); refine bV 2 (cs := #[.int .i64 a0_0, .int .i64 a0_1]) (t := 41) rfl rfl (by first | (go_simp; done) | (go_simp; rfl)) ?_; intro gb414 hg w30 hbox hb; have BK414 := hbox; have GW414 := gZ HB hg; have GE414 := gZ HB hg; replace HB := tB HB hb; clear hb hbox hg) | ((with_reducible refine gate_dst (N := 3) rfl ?_); refine bV 3 (cs := #[.int .i64 a1_0, .int .i64 a1_1]) (t := 41) rfl rfl (by first | (go_simp; done) | (go_simp; rfl)) ?_; intro gb415 hg w31 hbox hb; have BK415 := hbox; have GW415 := gZ HB hg; have GE415 := gZ HB hg; have NB414_415 := nG BK414 hg; have NB415_414 := nH BK414 hg; replace BK414 := bB BK414 hb; replace HB := tB HB hb; clear hb hbox hg; have hnb32 := NB414_415.out; have hnc32 := NB415_414.out; have hcz33_0 := vZ0 BK414; have hcz33_1 := vZ1 BK414; have hfz33_0 := kF BK414.out 0; have hfz33_1 := kF BK414.out 1; have hcz34_0 := vZ0 BK415; have hcz34_1 := vZ1 BK415; have hfz34_0 := kF BK415.out 0; have hfz34_1 := kF BK415.out 1) | ((with_reducible refine gate_dst (N := 8) rfl ?_); refine Kd.R_lit kd_impl_Peg _ 41 ?hg (N := 8) ?hd (xs := ([(⟨a0_0, a0_1⟩ : S_impl_Peg), (⟨a1_0, a1_1⟩ : S_impl_Peg)] : List (S_impl_Peg))) (inner := [.int .i64 a0_0, .int .i64 a0_1, .int .i64 a1_0, .int .i64 a1_1]) (ok := fun _ => True) (okp := fun _ => True) ?hr ?hp (fun _ hk => hk) trivial (Below.refl _ _) (Nat.le_refl _) (by simp) ?_; (case hd => rfl); (case hg => rfl); (case hr => first | (go_simp; done) | (go_simp; rfl)); (case hp => exact (Reps.c2 (show Kd.M kd_impl_Peg _ _ _ (⟨a0_0, a0_1⟩ : S_impl_Peg) [.int .i64 a0_0, .int .i64 a0_1] from (kd_impl_Peg_mkM _ _ _ (⟨a0_0, a0_1⟩ : S_impl_Peg) )) (Reps.c2 (show Kd.M kd_impl_Peg _ _ _ (⟨a1_0, a1_1⟩ : S_impl_Peg) [.int .i64 a1_0, .int .i64 a1_1] from (kd_impl_Peg_mkM _ _ _ (⟨a1_0, a1_1⟩ : S_impl_Peg) )) (Reps.none _ _)))); intro v417 w35 ho36 hb hg_ hnew_; clear hg_ hnew_; (first | rw [← Ny416.out] at ho36 | (simp only [Int.reduceToNat] at ho36; rw [← Ny416.out] at ho36)); have HO418 := aM (Kd.R_lower (Kd.R_newB (Kd.R_newB ho36 (g := gb414) (o := .cells #[.int .i64 a0_0, .int .i64 a0_1] 41 (0, 0)) (gQ BK414)) (g := gb415) (o := .cells #[.int .i64 a1_0, .int .i64 a1_1] 41 (0, 0)) (gQ BK415)) (pZ bE)); replace BK414 := bB BK414 hb; replace BK415 := bB BK415 hb; replace HB := tB HB hb; clear hb ho36; obtain ⟨Ao37, co37, eo37⟩ := Kd.R_slice HO418.out; subst eo37) | ((with_reducible refine gC (f := 77) rfl ?_); refine goesL_ (some 9) rfl rfl Try.func77 kR rfl #[.slice Ao37 y416.length co37] rfl sQ ?_; (with_reducible refine (impl_arePegs.calls k _ _ y416 false _ ?side1 ?side2 A3.out).mono ?_); (case side1 => repeat (first | exact (rR HO418.out).2.2 | (with_reducible refine cA ?_ _) | (with_reducible refine cN ?_ _) | (with_reducible refine cD ?_))); (case side2 => exact (rR HO418.out).2.1); rintro e w38 ⟨rfl, hb⟩; refine ⟨_, rfl, ?_⟩; replace HO418 := aM (Kd.R_below (by (with_reducible repeat (first | apply rA | apply rN | apply rD)); exact HO418.out) hb); replace BK414 := bB BK414 hb; replace BK415 := bB BK415 hb; replace HB := tB HB hb; (try clear hb); (try clear hb2); (try clear hk); (try clear hi)))
  go_ret2
  exact ⟨wQ, bE⟩

end Go.Proofs.Ytoeclfihlhmnpaa.X
