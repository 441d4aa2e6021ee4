-- thin
-- short
-- compact
import Derived.Test.YtfihohongkfibaaXA
import Derived.Test.YtfihohongkfibaaX0
import Derived.Test.YtfihohongkfibaaX6
import Derived.Test.YtfihohongkfibaaX7
namespace Go.Proofs.Ytfihohongkfibaa.X
open Go.RowKit Go.Proofs.Ytfihohongkfibaa.XW Go.Proofs.YtfihohongkfibaaW.PrintWords Go.Proofs.YtfihohongkfibaaW.PrintLast Go.Proofs.YtfihohongkfibaaW.PrintMore
attribute [local go_sem] max2_int min2_int max_two min_two max_three min_three max_four min_four   -- for this text's walks alone
set_option linter.unusedVariables false
set_option linter.unusedSimpArgs false

def spec_l1Least.f (a0 : Int) (a1 : Int) : Option (Int) := if a0 < a1 then (some a0) else (some a1)
set_option maxHeartbeats 8000000 in
set_option maxRecDepth 100000 in
theorem spec_l1Least.calls (a0 : Int) (a1 : Int) (r : Int) (w : World) (h : spec_l1Least.f a0 a1 = some r) :
  Calls Try.prog 138 #[.int .i64 a0, .int .i64 a1] w fun e w' => e = .returned (.int .i64 r) ∧ Drawn0 w w' := by
 unfold spec_l1Least.f at h; have H := h; clear h
 by_cases c3 : a0 < a1
 ·rw [if_pos c3] at H; have c3b0 := dE c3; clear c3; obtain rfl := Option.some.inj H
  go_enter Try.func138, Try.ntmps138
  go_wp2
  go_ret
  exact ⟨eQ, dQ⟩
 ·rw [if_neg c3] at H; have c3b0 := decide_eq_false c3; clear c3; obtain rfl := Option.some.inj H
  go_enter Try.func138, Try.ntmps138
  go_wp2
  go_ret
  exact ⟨eQ, dQ⟩

def spec_wiRange.l0 : Nat → Int → Int → Int → Int → List (S_impl_Peg) → Int → Int → Option (Int × Int)
 | 0, _, _, _, _, _, _, _ => none
 | k + 1, x1, x2, x8, x9, x27, x28, x29 => if x29 < x28 then (if 0 ≤ x29 then (if x29 < (x27.length : Int) then ((spec_l1Least.f x8 (wrap64 ((wrap64 (x1 * ((rd_impl_Peg x27 x29).f0))) + (wrap64 (x2 * ((rd_impl_Peg x27 x29).f1)))))).bind fun t182 => ((spec_l1Most.f x9 (wrap64 ((wrap64 (x1 * ((rd_impl_Peg x27 x29).f0))) + (wrap64 (x2 * ((rd_impl_Peg x27 x29).f1)))))).bind fun t183 => (spec_wiRange.l0 k x1 x2 t182 t183 x27 x28 (wrap64 (x29 + 1))))) else (none)) else (none)) else (some (x8, x9))
def spec_wiRange.f (k : Nat) (l0 : List (S_impl_Peg)) (a1 : Int) (a2 : Int) : Option (Int × Int) := if 0 < (l0.length : Int) then (spec_wiRange.l0 k a1 a2 (wrap64 ((wrap64 (a1 * ((rd_impl_Peg l0 0).f0))) + (wrap64 (a2 * ((rd_impl_Peg l0 0).f1))))) (wrap64 ((wrap64 (a1 * ((rd_impl_Peg l0 0).f0))) + (wrap64 (a2 * ((rd_impl_Peg l0 0).f1))))) l0 (l0.length : Int) 0) else (none)
theorem spec_wiRange.mono_l : ∀ k, (∀ y0 y1 y2 y3 y4 y5 y6, LeO (spec_wiRange.l0 k y0 y1 y2 y3 y4 y5 y6) (spec_wiRange.l0 (k + 1) y0 y1 y2 y3 y4 y5 y6))
 | 0 => fun _ _ _ _ _ _ _ r h => by simp [spec_wiRange.l0] at h
 | k + 1 => by
  have ih0 := spec_wiRange.mono_l k
  ·intro y0 y1 y2 y3 y4 y5 y6
   unfold spec_wiRange.l0
   repeat' first
   | (with_reducible exact ih0 _ _ _ _ _ _ _)
   | (with_reducible exact LeO.refl _)
   | (with_reducible exact LeO.none _)
   | (with_reducible refine LeO.ite ?_ ?_)
   | (with_reducible refine LeO.bind ?_ (fun _ => ?_))
   | exact ih0 _ _ _ _ _ _ _
   | exact LeO.none _
   | refine LeO.ite ?_ ?_
   | refine LeO.bind ?_ (fun _ => ?_)
theorem spec_wiRange.mono : ∀ a0 a1 a2 k, LeO (spec_wiRange.f k a0 a1 a2) (spec_wiRange.f (k + 1) a0 a1 a2) := by
 intro a0 a1 a2 k
 have ih0 := spec_wiRange.mono_l k
 unfold spec_wiRange.f
 repeat' first | (with_reducible exact ih0 _ _ _ _ _ _ _) | (with_reducible exact LeO.refl _) | (with_reducible exact LeO.none _) | (with_reducible refine LeO.ite ?_ ?_) | (with_reducible refine LeO.bind ?_ (fun _ => ?_)) | exact ih0 _ _ _ _ _ _ _ | exact LeO.none _ | refine LeO.ite ?_ ?_ | refine LeO.bind ?_ (fun _ => ?_)
set_option maxHeartbeats 8000000 in
set_option maxRecDepth 100000 in
theorem spec_wiRange.calls (k : Nat) (A0 : Option Addr) (c0 : Nat) (l0 : List (S_impl_Peg)) (a1 : Int) (a2 : Int) (r1 : Int) (r2 : Int) (w : World) (hr0 : Kd.C kd_impl_Peg w A0 l0.length l0) (hc0 : l0.length ≤ c0) (h : spec_wiRange.f k l0 a1 a2 = some (r1, r2)) :
  Calls Try.prog 121 #[.slice A0 l0.length c0, .int .i64 a1, .int .i64 a2] w fun e w' => e = .returned (.tuple #[.int .i64 r1, .int .i64 r2]) ∧ Below w.heap.size w w' := by
 have hu50 := Try.underlying50; have HR0 := aM hr0; have HC0 := aM hc0; clear hr0 hc0; have HB := aM (Below.refl w.heap.size w)
 unfold spec_wiRange.f at h; have H := h; clear h
 replace H := iN H; obtain ⟨c4, H⟩ := H; have c4b0 := dE c4; have c4b1 : decide (0 < l0.length) = true := dE (by omega)
 clear c4; have H' := aM H; clear H; have p178 : 0 ≤ (0 : Int) := (by omega)
 have q178 : 0 < (l0.length : Int) := dT aQ; obtain ⟨ad178, e178, hx178_0, hx178_1⟩ := at_impl_Peg HR0.out 0 p178 q178
 cases e178
 have qi178 : (0 < l0.length) = True := eq_true (by omega)
 (try rw [show ((0 : Int)).toNat = 0 from rfl] at hx178_0)
 (try rw [show 0 * 2 = 0 from rfl] at hx178_0)
 (try rw [Addr.add_zero'] at hx178_0)
 (try rw [show ((0 : Int)).toNat = 0 from rfl] at hx178_1)
 (try rw [show 0 * 2 = 0 from rfl] at hx178_1)
 (try rw [Addr.add_zero'] at hx178_1)
 replace p178 := eq_true p178; replace q178 := eq_true q178; have p179 : 0 ≤ (0 : Int) := (by omega)
 have q179 : 0 < (l0.length : Int) := dT aQ; obtain ⟨ad179, e179, hx179_0, hx179_1⟩ := at_impl_Peg HR0.out 0 p179 q179; obtain rfl : ad178 = ad179 := (by injection e179)
 have qi179 : (0 < l0.length) = True := eq_true (by omega)
 (try rw [show ((0 : Int)).toNat = 0 from rfl] at hx179_0)
 (try rw [show 0 * 2 = 0 from rfl] at hx179_0)
 (try rw [Addr.add_zero'] at hx179_0)
 (try rw [show ((0 : Int)).toNat = 0 from rfl] at hx179_1)
 (try rw [show 0 * 2 = 0 from rfl] at hx179_1)
 (try rw [Addr.add_zero'] at hx179_1)
 replace p179 := eq_true p179; replace q179 := eq_true q179
 go_enter Try.func121, Try.ntmps121
 go_wp2
 repeat (go_quiet (fail); try go_wp2)
 go_loopg [8, 9, 29] k (fun kq v8 v9 v29 w' => ∃ (x8_1 : Int) (x9_1 : Int) (x29_1 : Int), v8 = .int .i64 x8_1 ∧ v9 = .int .i64 x9_1 ∧ v29 = .int .i64 x29_1 ∧ Aside0 (spec_wiRange.l0 kq a1 a2 x8_1 x9_1 l0 (l0.length : Int) x29_1 = some (r1, r2)) ∧ Aside0 (kq ≤ k) ∧ Aside0 (Below w.heap.size w w'))
 case atStart => exact ⟨(wrap64 ((wrap64 (a1 * ((rd_impl_Peg l0 0).f0))) + (wrap64 (a2 * ((rd_impl_Peg l0 0).f1))))), (wrap64 ((wrap64 (a1 * ((rd_impl_Peg l0 0).f0))) + (wrap64 (a2 * ((rd_impl_Peg l0 0).f1))))), (0), eQ, eQ, eQ, H', ⟨Nat.le_refl _⟩, ⟨bQ⟩⟩
 case round =>
  clear H'; (try clear c4); (try clear c4b0); (try clear c4b1); (try clear hx178_0); (try clear hx178_1); (try clear hx179_0); (try clear hx179_1); (try clear p178); (try clear p179); (try clear q178); (try clear q179); obtain ⟨x8_1, x9_1, x29_1, rfl, rfl, rfl, HA, HK1, HB⟩ := hrel
  cases gk with
  | zero => exact absurd HA.out (by simp [spec_wiRange.l0])
  | succ k1 =>
   have H := HA.out; clear HA
   simp only [spec_wiRange.l0] at H
   by_cases c5 : x29_1 < (l0.length : Int)
   ·rw [if_pos c5] at H; have c5b0 := dE c5; clear c5; replace H := iD H; obtain ⟨c6b0, H⟩ := H; replace H := iD H; obtain ⟨c7b0, H⟩ := H; replace H := bS H; obtain ⟨t182, A8, H⟩ := H; replace H := bS H; obtain ⟨t183, A9, H⟩ := H; have H' := aM H; clear H; have p180 : 0 ≤ (x29_1 : Int) := dT aQ; have q180 : x29_1 < (l0.length : Int) := dT aQ; obtain ⟨ad180, e180, hx180_0, hx180_1⟩ := at_impl_Peg HR0.out x29_1 p180 q180; obtain rfl : ad178 = ad180 := (by injection e180)
    replace hx180_0 := hC HB hx180_0; replace hx180_1 := hC HB hx180_1; replace p180 := eq_true p180; replace q180 := eq_true q180
    go_wp2_with (first | ((with_reducible refine gate_dst (N := 11) rfl ?_); refine bV 11 (cs := #[.int .i64 0, .int .i64 0]) (t := 50) rfl rfl (by first | (go_simp; done) | (go_simp; rfl)) ?_; intro gb181 hg w10 hbox hb; have BK181 := hbox; have GW181 := gZ HB hg; have GE181 := gZ HB hg; replace HB := tB HB hb; clear hb hbox hg; have hcz11_0 := vZ0 BK181; have hcz11_1 := vZ1 BK181; have hfz11_0 := kF BK181.out 0; have hfz11_1 := kF BK181.out 1) | (go_at_call 138; (with_reducible refine (spec_l1Least.calls x8_1 (wrap64 ((wrap64 (a1 * ((rd_impl_Peg l0 x29_1).f0))) + (wrap64 (a2 * ((rd_impl_Peg l0 x29_1).f1))))) t182 _ A8.out).mono ?_); rintro e w' ⟨rfl, ⟨nd, rfl⟩⟩; (try first | exact ⟨rfl, _, World.drewN_drewN _ _ _⟩ | exact ⟨rfl, _, Eq.trans (World.drewN_drewN _ _ _) (congrArg (World.drewN _) (Nat.add_assoc _ _ _))⟩)) | (go_at_call 84; (with_reducible refine (spec_l1Most.calls x9_1 (wrap64 ((wrap64 (a1 * ((rd_impl_Peg l0 x29_1).f0))) + (wrap64 (a2 * ((rd_impl_Peg l0 x29_1).f1))))) t183 _ A9.out).mono ?_); rintro e w' ⟨rfl, ⟨nd, rfl⟩⟩; (try first | exact ⟨rfl, _, World.drewN_drewN _ _ _⟩ | exact ⟨rfl, _, Eq.trans (World.drewN_drewN _ _ _) (congrArg (World.drewN _) (Nat.add_assoc _ _ _))⟩)))
    repeat (go_quiet (first | ((with_reducible refine gate_dst (N := 11) rfl ?_); refine bV 11 (cs := #[.int .i64 0, .int .i64 0]) (t := 50) rfl rfl (by first | (go_simp; done) | (go_simp; rfl)) ?_; intro gb181 hg w10 hbox hb; have n0_ := tB HB hb; have n1_ := hbox; have n2_ := gZ HB hg; have n3_ := gZ HB hg; clear HB; have HB := n0_; have BK181 := n1_; have GW181 := n2_; have GE181 := n3_; clear n0_ n1_ n2_ n3_; clear hb hbox hg; have hcz11_0 := vZ0 BK181; have hcz11_1 := vZ1 BK181; have hfz11_0 := kF BK181.out 0; have hfz11_1 := kF BK181.out 1) | (go_at_call 138; (with_reducible refine (spec_l1Least.calls x8_1 (wrap64 ((wrap64 (a1 * ((rd_impl_Peg l0 x29_1).f0))) + (wrap64 (a2 * ((rd_impl_Peg l0 x29_1).f1))))) t182 _ A8.out).mono ?_); rintro e w' ⟨rfl, ⟨nd, rfl⟩⟩; (try first | exact ⟨rfl, _, World.drewN_drewN _ _ _⟩ | exact ⟨rfl, _, Eq.trans (World.drewN_drewN _ _ _) (congrArg (World.drewN _) (Nat.add_assoc _ _ _))⟩)) | (go_at_call 84; (with_reducible refine (spec_l1Most.calls x9_1 (wrap64 ((wrap64 (a1 * ((rd_impl_Peg l0 x29_1).f0))) + (wrap64 (a2 * ((rd_impl_Peg l0 x29_1).f1))))) t183 _ A9.out).mono ?_); rintro e w' ⟨rfl, ⟨nd, rfl⟩⟩; (try first | exact ⟨rfl, _, World.drewN_drewN _ _ _⟩ | exact ⟨rfl, _, Eq.trans (World.drewN_drewN _ _ _) (congrArg (World.drewN _) (Nat.add_assoc _ _ _))⟩))); try go_wp2_with (first | ((with_reducible refine gate_dst (N := 11) rfl ?_); refine bV 11 (cs := #[.int .i64 0, .int .i64 0]) (t := 50) rfl rfl (by first | (go_simp; done) | (go_simp; rfl)) ?_; intro gb181 hg w10 hbox hb; have n0_ := tB HB hb; have n1_ := hbox; have n2_ := gZ HB hg; have n3_ := gZ HB hg; clear HB; have HB := n0_; have BK181 := n1_; have GW181 := n2_; have GE181 := n3_; clear n0_ n1_ n2_ n3_; clear hb hbox hg; have hcz11_0 := vZ0 BK181; have hcz11_1 := vZ1 BK181; have hfz11_0 := kF BK181.out 0; have hfz11_1 := kF BK181.out 1) | (go_at_call 138; (with_reducible refine (spec_l1Least.calls x8_1 (wrap64 ((wrap64 (a1 * ((rd_impl_Peg l0 x29_1).f0))) + (wrap64 (a2 * ((rd_impl_Peg l0 x29_1).f1))))) t182 _ A8.out).mono ?_); rintro e w' ⟨rfl, ⟨nd, rfl⟩⟩; (try first | exact ⟨rfl, _, World.drewN_drewN _ _ _⟩ | exact ⟨rfl, _, Eq.trans (World.drewN_drewN _ _ _) (congrArg (World.drewN _) (Nat.add_assoc _ _ _))⟩)) | (go_at_call 84; (with_reducible refine (spec_l1Most.calls x9_1 (wrap64 ((wrap64 (a1 * ((rd_impl_Peg l0 x29_1).f0))) + (wrap64 (a2 * ((rd_impl_Peg l0 x29_1).f1))))) t183 _ A9.out).mono ?_); rintro e w' ⟨rfl, ⟨nd, rfl⟩⟩; (try first | exact ⟨rfl, _, World.drewN_drewN _ _ _⟩ | exact ⟨rfl, _, Eq.trans (World.drewN_drewN _ _ _) (congrArg (World.drewN _) (Nat.add_assoc _ _ _))⟩))))
    go_roundg k1
    case measure => have := HK1.out; omega
    case rel => exact ⟨(t182), (t183), (wrap64 (x29_1 + 1)), eQ, eQ, eQ, H', ⟨by have := HK1.out; omega⟩, ⟨bE⟩⟩
   ·rw [if_neg c5] at H; have c5b0 := decide_eq_false c5; clear c5
    simp only [Option.some.injEq, Prod.mk.injEq] at H
    obtain ⟨rfl, rfl⟩ := H; go_wp2
    repeat (go_quiet (fail); try go_wp2)
    go_ret2
    exact ⟨wQ, bQ⟩
mutual
def spec_wiLines.l0 : Nat → List (S_impl_Peg) → Int → Int → Int → List Int → Int → Option (List Int)
 | 0, _, _, _, _, _, _ => none
 | k + 1, x0, x1, x2, x7, x9, x10 => if x10 ≤ 40 then (spec_wiLines.l1 k x0 x1 x2 x7 x9 x10 (-40)) else (some x9)
def spec_wiLines.l1 : Nat → List (S_impl_Peg) → Int → Int → Int → List Int → Int → Int → Option (List Int)
 | 0, _, _, _, _, _, _, _ => none
 | k + 1, x0, x1, x2, x7, x9, x10, x11 => if x11 ≤ 40 then ((spec_pgWhere.f k x0 x10 x11).bind fun t190 => (if t190 ≥ 0 then (if 0 ≤ (wrap64 ((wrap64 ((wrap64 (x1 * x10)) + (wrap64 (x2 * x11)))) - x7)) then (if (wrap64 ((wrap64 ((wrap64 (x1 * x10)) + (wrap64 (x2 * x11)))) - x7)) < (x9.length : Int) then (spec_wiLines.l1 k x0 x1 x2 x7 (x9.set ((wrap64 ((wrap64 ((wrap64 (x1 * x10)) + (wrap64 (x2 * x11)))) - x7)) : Int).toNat (wrap64 ((rd x9 (wrap64 ((wrap64 ((wrap64 (x1 * x10)) + (wrap64 (x2 * x11)))) - x7))) + 1))) x10 (wrap64 (x11 + 1))) else (none)) else (none)) else (spec_wiLines.l1 k x0 x1 x2 x7 x9 x10 (wrap64 (x11 + 1))))) else (spec_wiLines.l0 k x0 x1 x2 x7 x9 (wrap64 (x10 + 1)))
end
def spec_wiLines.f (k : Nat) (l0 : List (S_impl_Peg)) (a1 : Int) (a2 : Int) : Option (List Int) := (spec_wiRange.f k l0 a1 a2).bind fun bt184 => (if 0 ≤ (wrap64 ((wrap64 (bt184.2 - bt184.1)) + 1)) then (if (wrap64 ((wrap64 (bt184.2 - bt184.1)) + 1) : Int).toNat ≤ 35184372088832 then (spec_wiLines.l0 k l0 a1 a2 bt184.1 (List.replicate (wrap64 ((wrap64 (bt184.2 - bt184.1)) + 1) : Int).toNat 0) (-40)) else (none)) else (none))
theorem spec_wiLines.mono_l : ∀ k, (∀ y0 y1 y2 y3 y4 y5, LeO (spec_wiLines.l0 k y0 y1 y2 y3 y4 y5) (spec_wiLines.l0 (k + 1) y0 y1 y2 y3 y4 y5)) ∧ (∀ y0 y1 y2 y3 y4 y5 y6, LeO (spec_wiLines.l1 k y0 y1 y2 y3 y4 y5 y6) (spec_wiLines.l1 (k + 1) y0 y1 y2 y3 y4 y5 y6))
 | 0 => ⟨fun _ _ _ _ _ _ r h => by simp [spec_wiLines.l0] at h, fun _ _ _ _ _ _ _ r h => by simp [spec_wiLines.l1] at h⟩
 | k + 1 => by
  obtain ⟨ih0, ih1⟩ := spec_wiLines.mono_l k
  refine ⟨?_, ?_⟩ <;> intros <;> (first | unfold spec_wiLines.l0 | unfold spec_wiLines.l1) <;> repeat' first | (with_reducible exact ih0 _ _ _ _ _ _) | (with_reducible exact ih1 _ _ _ _ _ _ _) | (with_reducible exact spec_pgWhere.mono _ _ _ _) | (with_reducible exact spec_wiRange.mono _ _ _ _) | (with_reducible exact LeO.refl _) | (with_reducible exact LeO.none _) | (with_reducible refine LeO.ite ?_ ?_) | (with_reducible refine LeO.bind ?_ (fun _ => ?_)) | exact ih0 _ _ _ _ _ _ | exact ih1 _ _ _ _ _ _ _ | exact spec_pgWhere.mono _ _ _ _ | exact spec_wiRange.mono _ _ _ _ | exact LeO.none _ | refine LeO.ite ?_ ?_ | refine LeO.bind ?_ (fun _ => ?_)
theorem spec_wiLines.mono : ∀ a0 a1 a2 k, LeO (spec_wiLines.f k a0 a1 a2) (spec_wiLines.f (k + 1) a0 a1 a2) := by
 intro a0 a1 a2 k
 obtain ⟨ih0, ih1⟩ := spec_wiLines.mono_l k
 unfold spec_wiLines.f
 repeat' first | (with_reducible exact ih0 _ _ _ _ _ _) | (with_reducible exact ih1 _ _ _ _ _ _ _) | (with_reducible exact spec_pgWhere.mono _ _ _ _) | (with_reducible exact spec_wiRange.mono _ _ _ _) | (with_reducible exact LeO.refl _) | (with_reducible exact LeO.none _) | (with_reducible refine LeO.ite ?_ ?_) | (with_reducible refine LeO.bind ?_ (fun _ => ?_)) | exact ih0 _ _ _ _ _ _ | exact ih1 _ _ _ _ _ _ _ | exact spec_pgWhere.mono _ _ _ _ | exact spec_wiRange.mono _ _ _ _ | exact LeO.none _ | refine LeO.ite ?_ ?_ | refine LeO.bind ?_ (fun _ => ?_)
set_option maxHeartbeats 8000000 in
set_option maxRecDepth 100000 in
theorem spec_wiLines.calls (k : Nat) (A0 : Option Addr) (c0 : Nat) (l0 : List (S_impl_Peg)) (a1 : Int) (a2 : Int) (r : List Int) (w : World) (hr0 : Kd.C kd_impl_Peg w A0 l0.length l0) (hc0 : l0.length ≤ c0) (h : spec_wiLines.f k l0 a1 a2 = some r) :
  Calls Try.prog 83 #[.slice A0 l0.length c0, .int .i64 a1, .int .i64 a2] w fun e w' => ∃ v0_ : Value, e = .returned (v0_) ∧ Kd.R (Kd.int .i64) 3 w' w.heap.size (fun _ => True) v0_ r ∧ Below w.heap.size w w' := by
 have hu50 := Try.underlying50; have HR0 := aM hr0; have HC0 := aM hc0; clear hr0 hc0; have HB := aM (Below.refl w.heap.size w)
 unfold spec_wiLines.f at h; have H := h; clear h
 replace H := bS H; obtain ⟨⟨t184, t185⟩, A4, H⟩ := H; obtain ⟨ji5, hji5⟩ : ∃ j_ : Int, (wrap64 ((wrap64 (t185 - t184)) + 1)) = j_ := ⟨_, rfl⟩
 (first | rw [hji5] at H | simp only [hji5] at H)
 (try rw [hji5] at A4)
 have hji5w : (IntKind.i64.wrap ((wrap64 (t185 - t184)) + 1)) = ji5 := (i64_w _).trans hji5; replace H := iN H; obtain ⟨c6, H⟩ := H; have c6b0 := eq_true c6; have c6b1 := dE c6; clear c6; replace H := iN H; obtain ⟨c7, H⟩ := H; have c7b0 := eq_true c7; have c7b1 := dE c7; clear c7; obtain ⟨y186, hy186⟩ : ∃ y_ : List Int, y_ = (List.replicate (ji5 : Int).toNat 0) := ⟨_, rfl⟩; rw [← hy186] at H; have Ny186 := aM hy186; clear hy186; have H' := aM H; clear H
 go_enter Try.func83, Try.ntmps83
 go_wp2_with (first | ((with_reducible refine gC (f := 121) rfl ?_); refine goesL_ (some 17) rfl rfl Try.func121 kR rfl #[.slice A0 l0.length c0, .int .i64 a1, .int .i64 a2] rfl sQ ?_; (with_reducible refine (spec_wiRange.calls k _ _ l0 a1 a2 t184 t185 _ ?side1 ?side2 A4.out).mono ?_); (case side1 => repeat (first | exact HR0.out | (with_reducible refine cA ?_ _) | (with_reducible refine cN ?_ _) | (with_reducible refine cD ?_))); (case side2 => exact HC0.out); rintro e w8 ⟨rfl, hb⟩; refine ⟨_, rfl, ?_⟩; replace HB := tB HB hb; (try clear hb); (try clear hb2); (try clear hk); (try clear hi)) | ((with_reducible refine gate_dst (N := 24) rfl ?_); refine Kd.R_make (Kd.int .i64) _ 3 rfl (N := 24) rfl 77 _ _ rfl ji5 rfl rfl Try.underlying77 (.int .i64 0) 8 info3 rfl (by decide) (by omega) 0 (ok := fun _ => True) (okp := fun _ => True) rfl (fun _ hk => hk) trivial (dT aQ) (Nat.le_trans (Nat.mul_le_mul_right _ (dT aQ : ji5.toNat ≤ 35184372088832)) (by omega)) (Below.refl _ _) (Nat.le_refl _) ?_; intro v187 w9 ho10 hb hg_ hnew_; clear hg_ hnew_; (first | rw [← Ny186.out] at ho10 | (simp only [Int.reduceToNat] at ho10; rw [← Ny186.out] at ho10)); have HO188 := aM (Kd.R_lower ho10 (pZ bQ)); replace HB := tB HB hb; clear hb ho10))
 go_loopg [10] k (fun kq v10 w' => ∃ (x9_1 : List Int) (x10_1 : Int), v10 = .int .i64 x10_1 ∧ Aside0 (spec_wiLines.l0 kq l0 a1 a2 t184 x9_1 x10_1 = some r) ∧ Aside0 (kq ≤ k) ∧ Aside0 (Kd.R (Kd.int .i64) 3 w' w.heap.size (fun _ => True) v187 x9_1) ∧ Aside0 (Below w.heap.size w w'))
 case atStart => exact ⟨(y186), ((-40)), eQ, H', ⟨Nat.le_refl _⟩, ⟨by (with_reducible repeat (first | apply rA | apply rN | apply rD)); exact HO188.out⟩, ⟨bQ⟩⟩
 case round =>
  clear H'; (try clear c6); (try clear c6b0); (try clear c6b1); (try clear c7); (try clear c7b0); (try clear c7b1); obtain ⟨x9_1, x10_1, rfl, HA, HK1, HO_9, HB⟩ := hrel
  cases gk with
  | zero => exact absurd HA.out (by simp [spec_wiLines.l0])
  | succ k1 =>
   have H := HA.out; clear HA
   simp only [spec_wiLines.l0] at H
   by_cases c11 : x10_1 ≤ 40
   ·rw [if_pos c11] at H; have c11b0 := dE c11; clear c11; have H' := aM H; clear H; go_wp2
    go_loopg [11] k1 (fun kq v11 w' => ∃ (x9_2 : List Int) (x11_2 : Int), v11 = .int .i64 x11_2 ∧ Aside0 (spec_wiLines.l1 kq l0 a1 a2 t184 x9_2 x10_1 x11_2 = some r) ∧ Aside0 (kq ≤ k1) ∧ Aside0 (Kd.R (Kd.int .i64) 3 w' w.heap.size (fun _ => True) v187 x9_2) ∧ Aside0 (Below w.heap.size w w'))
    case atStart => exact ⟨(x9_1), ((-40)), eQ, H', ⟨Nat.le_refl _⟩, ⟨by (with_reducible repeat (first | apply rA | apply rN | apply rD)); exact HO_9.out⟩, ⟨bQ⟩⟩
    case round =>
     clear H'; (try clear c6); (try clear c6b0); (try clear c6b1); (try clear c7); (try clear c7b0); (try clear c7b1); (try clear c11); (try clear c11b0); obtain ⟨x9_2, x11_2, rfl, HA, HK2, HO_9, HB⟩ := hrel
     cases gk with
     | zero => exact absurd HA.out (by simp [spec_wiLines.l1])
     | succ k2 =>
      have H := HA.out; clear HA
      simp only [spec_wiLines.l1] at H
      by_cases c12 : x11_2 ≤ 40
      ·rw [if_pos c12] at H; have c12b0 := dE c12; clear c12; replace H := bS H; obtain ⟨t190, A13, H⟩ := H
       by_cases c14 : t190 ≥ 0
       ·rw [if_pos c14] at H; have c14b0 := dE c14; clear c14; obtain ⟨ji15, hji15⟩ : ∃ j_ : Int, (wrap64 ((wrap64 ((wrap64 (a1 * x10_1)) + (wrap64 (a2 * x11_2)))) - t184)) = j_ := ⟨_, rfl⟩
        (first | rw [hji15] at H | simp only [hji15] at H)
        (try rw [hji15] at A13)
        have hji15w : (IntKind.i64.wrap ((wrap64 ((wrap64 (a1 * x10_1)) + (wrap64 (a2 * x11_2)))) - t184)) = ji15 := (i64_w _).trans hji15; replace H := iD H; obtain ⟨c16b0, H⟩ := H; replace H := iD H; obtain ⟨c17b0, H⟩ := H; obtain ⟨y192, hy192⟩ : ∃ y_ : List Int, y_ = (x9_2.set ((ji15) : Int).toNat (wrap64 ((rd x9_2 (ji15)) + 1))) := ⟨_, rfl⟩; rw [← hy192] at H; have Ny192 := aM hy192; clear hy192; have H' := aM H; clear H
        go_wp2_with (first | ((with_reducible refine gate_dst (N := 12) rfl ?_); refine bV 12 (cs := #[.int .i64 0, .int .i64 0]) (t := 50) rfl rfl (by first | (go_simp; done) | (go_simp; rfl)) ?_; intro gb189 hg w19 hbox hb; have BK189 := hbox; have GW189 := gZ HB hg; have GE189 := gZ HB hg; replace HO_9 := aM (Kd.R_below (by (with_reducible repeat (first | apply rA | apply rN | apply rD)); exact HO_9.out) hb); replace HB := tB HB hb; clear hb hbox hg; have hcz20_0 := vZ0 BK189; have hcz20_1 := vZ1 BK189; have hfz20_0 := kF BK189.out 0; have hfz20_1 := kF BK189.out 1) | ((with_reducible refine gC (f := 79) rfl ?_); refine goesL_ (some 38) rfl rfl Try.func79 kR rfl #[.slice A0 l0.length c0, .agg #[.int .i64 x10_1, .int .i64 x11_2]] rfl sQ ?_; (with_reducible refine (spec_pgWhere.calls k2 _ _ l0 x10_1 x11_2 t190 _ ?side1 ?side2 A13.out).mono ?_); (case side1 => exact Kd.C_below HR0.out bE); (case side2 => exact HC0.out); rintro e w21 ⟨rfl, hb⟩; refine ⟨_, rfl, ?_⟩; replace HO_9 := aM (Kd.R_below (by (with_reducible repeat (first | apply rA | apply rN | apply rD)); exact (Kd.R_mono (Kd.R_far (p := ⟨gb189, 1, none⟩) (Kd.R_far (p := ⟨gb189, 0, none⟩) (Kd.R_types HO_9.out BK189.out (by decide)) (fun _ hk => hk.2) (.int .i64 x10_1)) (fun _ hk => hk.2) (.int .i64 x11_2)) (fun _ h_ => h_.1))) hb); replace BK189 := aM (blk_below (g := gb189) (o := .cells #[.int .i64 x10_1, .int .i64 x11_2] 50 (0, 0)) (fQ BK189) hb); replace HB := tB HB hb; (try clear hb); (try clear hb2); (try clear hk); (try clear hi); obtain ⟨Ao22, co22, eo22⟩ := Kd.R_slice HO_9.out; subst eo22; have p191 : 0 ≤ ((ji15) : Int) := dT aQ; have q191 : (ji15) < (x9_2.length : Int) := dT aQ; obtain ⟨ad191, e191, hx191_0⟩ := Kd.at_int (rR HO_9.out).2.2 (ji15) p191 q191; cases e191; replace p191 := eq_true p191; replace q191 := eq_true q191; have p18 : 0 ≤ ((ji15) : Int) := dT aQ; have q18 : ((ji15) : Int) < ((x9_2.length : Int) : Int) := dT aQ; obtain ⟨go18, co18, eo18, gb18, gl18, cl18, HG18⟩ := Kd.R_form HO_9.out (by omega); (first | cases eo18 | (injection eo18 with ea_ en_ ec_; (first | subst ea_ | (injection ea_ with ea_; subst ea_)); subst ec_; clear en_)); have GB18 := aM gb18; have GG18 := aM HG18; clear gb18 gl18 HG18; (first | simp only [add_plain] at hx191_0 | skip); obtain ⟨hx18_0, hf18_0⟩ := Kd.R_celln 0 HO_9.out ((ji15) : Int) p18 q18; replace p18 := eq_true p18; replace q18 := eq_true q18; obtain ⟨hy23_, hz23_⟩ := Kd.R_celln 0 HO_9.out ((ji15) : Int) (dT aQ) (dT aQ); have HP23 := Kd.R_putg HO_9.out ((ji15) : Int) (wrap64 ((rd x9_2 (ji15)) + 1))) | ((with_reducible refine gate_store (t := 3) (p := 53) rfl ?_); refine store_event (t := 3) (p := 53) (v := ?vo_w24) (w1 := (w21.setCell ⟨go18, ((ji15) : Int).toNat, none⟩ (.int .i64 (wrap64 ((rd x9_2 (ji15)) + 1))))) ?hg ?ho ?hn ?hr ?_; (case ho => rfl); (case hg => rfl); (case hn => rfl); (case hr => first | (go_simp; done) | (go_simp; rfl)); intro w24 hw; have hg : w21.grownBy w24 (some go18) := (by rw [hw]; exact HP23.2); have hp_ : Kd.R (Kd.int .i64) 3 w24 w.heap.size (fun _ => True) (.slice (some ⟨go18, 0, none⟩) x9_2.length co22) y192 := (by rw [hw, Ny192.out]; exact HP23.1); clear HP23; replace BK189 := aM (blk_grown (g := gb189) (o := .cells #[.int .i64 x10_1, .int .i64 x11_2] 50 (0, 0)) (gQ BK189) hg (Kd.R_ne HO_9.out BK189.out (by decide))); replace HO_9 := aM (hp_); replace HB := aM ((by rw [hw]; exact pS (HB.out) GB18.out : Below w.heap.size w w24)); clear hg hw hp_))
        go_roundg k2
        case measure => have := HK1.out; have := HK2.out; omega
        case rel => exact ⟨(y192), (wrap64 (x11_2 + 1)), eQ, H', ⟨by have := HK1.out; have := HK2.out; omega⟩, ⟨by (with_reducible repeat (first | apply rA | apply rN | apply rD)); exact HO_9.out⟩, ⟨bE⟩⟩
       ·rw [if_neg c14] at H; have c14b0 := decide_eq_false c14; clear c14; have H' := aM H; clear H
        go_wp2_with (first | ((with_reducible refine gate_dst (N := 12) rfl ?_); refine bV 12 (cs := #[.int .i64 0, .int .i64 0]) (t := 50) rfl rfl (by first | (go_simp; done) | (go_simp; rfl)) ?_; intro gb189 hg w25 hbox hb; have BK189 := hbox; have GW189 := gZ HB hg; have GE189 := gZ HB hg; replace HO_9 := aM (Kd.R_below (by (with_reducible repeat (first | apply rA | apply rN | apply rD)); exact HO_9.out) hb); replace HB := tB HB hb; clear hb hbox hg; have hcz26_0 := vZ0 BK189; have hcz26_1 := vZ1 BK189; have hfz26_0 := kF BK189.out 0; have hfz26_1 := kF BK189.out 1) | ((with_reducible refine gC (f := 79) rfl ?_); refine goesL_ (some 38) rfl rfl Try.func79 kR rfl #[.slice A0 l0.length c0, .agg #[.int .i64 x10_1, .int .i64 x11_2]] rfl sQ ?_; (with_reducible refine (spec_pgWhere.calls k2 _ _ l0 x10_1 x11_2 t190 _ ?side1 ?side2 A13.out).mono ?_); (case side1 => exact Kd.C_below HR0.out bE); (case side2 => exact HC0.out); rintro e w27 ⟨rfl, hb⟩; refine ⟨_, rfl, ?_⟩; replace HO_9 := aM (Kd.R_below (by (with_reducible repeat (first | apply rA | apply rN | apply rD)); exact (Kd.R_mono (Kd.R_far (p := ⟨gb189, 1, none⟩) (Kd.R_far (p := ⟨gb189, 0, none⟩) (Kd.R_types HO_9.out BK189.out (by decide)) (fun _ hk => hk.2) (.int .i64 x10_1)) (fun _ hk => hk.2) (.int .i64 x11_2)) (fun _ h_ => h_.1))) hb); replace BK189 := aM (blk_below (g := gb189) (o := .cells #[.int .i64 x10_1, .int .i64 x11_2] 50 (0, 0)) (fQ BK189) hb); replace HB := tB HB hb; (try clear hb); (try clear hb2); (try clear hk); (try clear hi)))
        go_roundg k2
        case measure => have := HK1.out; have := HK2.out; omega
        case rel => exact ⟨(x9_2), (wrap64 (x11_2 + 1)), eQ, H', ⟨by have := HK1.out; have := HK2.out; omega⟩, ⟨by (with_reducible repeat (first | apply rA | apply rN | apply rD)); exact HO_9.out⟩, ⟨bE⟩⟩
      ·rw [if_neg c12] at H; have c12b0 := decide_eq_false c12; clear c12; have H' := aM H; clear H; go_wp2
       go_roundg k2
       case measure => have := HK1.out; have := HK2.out; omega
       case rel => exact ⟨(x9_2), (wrap64 (x10_1 + 1)), eQ, H', ⟨by have := HK1.out; have := HK2.out; omega⟩, ⟨by (with_reducible repeat (first | apply rA | apply rN | apply rD)); exact HO_9.out⟩, ⟨bQ⟩⟩
   ·rw [if_neg c11] at H; have c11b0 := decide_eq_false c11; clear c11; obtain rfl := Option.some.inj H; go_wp2
    go_ret
    exact ⟨_, by first | rfl | (simp [errW_none, errW_some] <;> rfl) | (simp only [← hji5]; first | rfl | (simp [errW_none, errW_some] <;> rfl)) | (simp [*, errW_none, errW_some] <;> rfl), by (with_reducible repeat (first | apply rA | apply rN | apply rD)); exact HO_9.out, bQ⟩
def spec_MostOnLine.l0 : Nat → Int → List Int → Int → Int → Option (Int × Bool)
 | 0, _, _, _, _ => none
 | k + 1, x8, x19, x20, x21 => if x21 < x20 then (if 0 ≤ x21 then (if x21 < (x19.length : Int) then ((spec_l1Most.f x8 (rd x19 x21)).bind fun t198 => (spec_MostOnLine.l0 k t198 x19 x20 (wrap64 (x21 + 1)))) else (none)) else (none)) else (some (x8, true))
def spec_MostOnLine.f (k : Nat) (l0 : List (S_impl_Peg)) (a1 : Int) (a2 : Int) : Option (Int × Bool) := (spec_wiAsked.f k l0 a1 a2).bind fun t193 => (if t193 = true then ((spec_wiLines.f k l0 a1 a2).bind fun t194 => (spec_MostOnLine.l0 k 0 t194 (t194.length : Int) 0)) else (some (0, false)))
theorem spec_MostOnLine.mono_l : ∀ k, (∀ y0 y1 y2 y3, LeO (spec_MostOnLine.l0 k y0 y1 y2 y3) (spec_MostOnLine.l0 (k + 1) y0 y1 y2 y3))
 | 0 => fun _ _ _ _ r h => by simp [spec_MostOnLine.l0] at h
 | k + 1 => by
  have ih0 := spec_MostOnLine.mono_l k
  ·intro y0 y1 y2 y3
   unfold spec_MostOnLine.l0
   repeat' first
   | (with_reducible exact ih0 _ _ _ _)
   | (with_reducible exact spec_wiAsked.mono _ _ _ _)
   | (with_reducible exact spec_wiLines.mono _ _ _ _)
   | (with_reducible exact LeO.refl _)
   | (with_reducible exact LeO.none _)
   | (with_reducible refine LeO.ite ?_ ?_)
   | (with_reducible refine LeO.bind ?_ (fun _ => ?_))
   | exact ih0 _ _ _ _
   | exact spec_wiAsked.mono _ _ _ _
   | exact spec_wiLines.mono _ _ _ _
   | exact LeO.none _
   | refine LeO.ite ?_ ?_
   | refine LeO.bind ?_ (fun _ => ?_)
theorem spec_MostOnLine.mono : ∀ a0 a1 a2 k, LeO (spec_MostOnLine.f k a0 a1 a2) (spec_MostOnLine.f (k + 1) a0 a1 a2) := by
 intro a0 a1 a2 k
 have ih0 := spec_MostOnLine.mono_l k
 unfold spec_MostOnLine.f
 repeat' first | (with_reducible exact ih0 _ _ _ _) | (with_reducible exact spec_wiAsked.mono _ _ _ _) | (with_reducible exact spec_wiLines.mono _ _ _ _) | (with_reducible exact LeO.refl _) | (with_reducible exact LeO.none _) | (with_reducible refine LeO.ite ?_ ?_) | (with_reducible refine LeO.bind ?_ (fun _ => ?_)) | exact ih0 _ _ _ _ | exact spec_wiAsked.mono _ _ _ _ | exact spec_wiLines.mono _ _ _ _ | exact LeO.none _ | refine LeO.ite ?_ ?_ | refine LeO.bind ?_ (fun _ => ?_)
set_option maxHeartbeats 8000000 in
set_option maxRecDepth 100000 in
theorem spec_MostOnLine.calls (k : Nat) (A0 : Option Addr) (c0 : Nat) (l0 : List (S_impl_Peg)) (a1 : Int) (a2 : Int) (r1 : Int) (r2 : Bool) (w : World) (hr0 : Kd.C kd_impl_Peg w A0 l0.length l0) (hc0 : l0.length ≤ c0) (h : spec_MostOnLine.f k l0 a1 a2 = some (r1, r2)) :
  Calls Try.prog 38 #[.slice A0 l0.length c0, .int .i64 a1, .int .i64 a2] w fun e w' => e = .returned (.tuple #[.int .i64 r1, .bool r2]) ∧ Below w.heap.size w w' := by
 have HR0 := aM hr0; have HC0 := aM hc0; clear hr0 hc0; have HB := aM (Below.refl w.heap.size w)
 unfold spec_MostOnLine.f at h; have H := h; clear h
 replace H := bS H; obtain ⟨t193, A4, H⟩ := H
 by_cases c5 : t193 = true
 ·subst c5; replace H := iT H; replace H := bS H; obtain ⟨t194, A6, H⟩ := H; have H' := aM H; clear H
  go_enter Try.func38, Try.ntmps38
  go_wp2_with (first | ((with_reducible refine gC (f := 82) rfl ?_); refine goesL_ (some 14) rfl rfl Try.func82 kR rfl #[.slice A0 l0.length c0, .int .i64 a1, .int .i64 a2] rfl sQ ?_; (with_reducible refine (spec_wiAsked.calls k _ _ l0 a1 a2 true _ ?side1 ?side2 A4.out).mono ?_); (case side1 => repeat (first | exact HR0.out | (with_reducible refine cA ?_ _) | (with_reducible refine cN ?_ _) | (with_reducible refine cD ?_))); (case side2 => exact HC0.out); rintro e w7 ⟨rfl, hb⟩; refine ⟨_, rfl, ?_⟩; replace HB := tB HB hb; (try clear hb); (try clear hb2); (try clear hk); (try clear hi)) | ((with_reducible refine gC (f := 83) rfl ?_); refine goesL_ (some 19) rfl rfl Try.func83 kR rfl #[.slice A0 l0.length c0, .int .i64 a1, .int .i64 a2] rfl sQ ?_; (with_reducible refine (spec_wiLines.calls k _ _ l0 a1 a2 t194 _ ?side1 ?side2 A6.out).mono ?_); (case side1 => repeat (first | exact (Kd.C_below HR0.out HB.out) | (with_reducible refine cA ?_ _) | (with_reducible refine cN ?_ _) | (with_reducible refine cD ?_))); (case side2 => exact HC0.out); rintro e w8 ⟨v195, rfl, ho0, hb⟩; refine ⟨_, rfl, ?_⟩; have HO196 := aM (Kd.R_lower ho0 (pZ bQ)); replace HB := tB HB hb; (try clear hb); (try clear hb2); (try clear hk); (try clear hi); (try clear ho0); obtain ⟨Ao9, co9, eo9⟩ := Kd.R_slice HO196.out; subst eo9))
  go_loopg [8, 21] k (fun kq v8 v21 w' => ∃ (x8_1 : Int) (x21_1 : Int), v8 = .int .i64 x8_1 ∧ v21 = .int .i64 x21_1 ∧ Aside0 (spec_MostOnLine.l0 kq x8_1 t194 (t194.length : Int) x21_1 = some (r1, r2)) ∧ Aside0 (kq ≤ k) ∧ Aside0 (Kd.R (Kd.int .i64) 3 w' w.heap.size (fun _ => True) (.slice Ao9 t194.length co9) t194) ∧ Aside0 (Below w.heap.size w w'))
  case atStart => exact ⟨(0), (0), eQ, eQ, H', ⟨Nat.le_refl _⟩, ⟨by (with_reducible repeat (first | apply rA | apply rN | apply rD)); exact HO196.out⟩, ⟨bQ⟩⟩
  case round =>
   clear H'; (try clear c5); obtain ⟨x8_1, x21_1, rfl, rfl, HA, HK1, HO_19, HB⟩ := hrel
   cases gk with
   | zero => exact absurd HA.out (by simp [spec_MostOnLine.l0])
   | succ k1 =>
    have H := HA.out; clear HA
    simp only [spec_MostOnLine.l0] at H
    by_cases c10 : x21_1 < (t194.length : Int)
    ·rw [if_pos c10] at H; have c10b0 := dE c10; clear c10; replace H := iD H; obtain ⟨c11b0, H⟩ := H; replace H := iD H; obtain ⟨c12b0, H⟩ := H; replace H := bS H; obtain ⟨t198, A13, H⟩ := H; have H' := aM H; clear H; have p197 : 0 ≤ (x21_1 : Int) := dT aQ; have q197 : x21_1 < (t194.length : Int) := dT aQ; obtain ⟨ad197, e197, hx197_0⟩ := Kd.at_int (rR HO_19.out).2.2 x21_1 p197 q197
     cases e197
     replace p197 := eq_true p197; replace q197 := eq_true q197
     go_wp2_with (first | ((with_reducible refine gC (f := 84) rfl ?_); refine goesL_ (some 27) rfl rfl Try.func84 kR rfl #[.int .i64 x8_1, .int .i64 (rd t194 x21_1)] rfl sQ ?_; (with_reducible refine (spec_l1Most.calls x8_1 (rd t194 x21_1) t198 _ A13.out).mono ?_); rintro e w' ⟨rfl, ⟨nd, rfl⟩⟩; refine ⟨_, rfl, ?_⟩))
     go_roundg k1
     case measure => have := HK1.out; omega
     case rel => exact ⟨(t198), (wrap64 (x21_1 + 1)), eQ, eQ, H', ⟨by have := HK1.out; omega⟩, ⟨by (with_reducible repeat (first | apply rA | apply rN | apply rD)); exact HO_19.out⟩, ⟨bQ⟩⟩
    ·rw [if_neg c10] at H; have c10b0 := decide_eq_false c10; clear c10
     simp only [Option.some.injEq, Prod.mk.injEq] at H
     obtain ⟨rfl, rfl⟩ := H; go_wp2
     go_ret2
     exact ⟨wQ, bQ⟩
 ·replace c5 := Bool.eq_false_iff.mpr c5; subst c5; replace H := iF H
  simp only [Option.some.injEq, Prod.mk.injEq] at H
  obtain ⟨rfl, rfl⟩ := H
  go_enter Try.func38, Try.ntmps38
  go_wp2_with (first | ((with_reducible refine gC (f := 82) rfl ?_); refine goesL_ (some 14) rfl rfl Try.func82 kR rfl #[.slice A0 l0.length c0, .int .i64 a1, .int .i64 a2] rfl sQ ?_; (with_reducible refine (spec_wiAsked.calls k _ _ l0 a1 a2 false _ ?side1 ?side2 A4.out).mono ?_); (case side1 => repeat (first | exact HR0.out | (with_reducible refine cA ?_ _) | (with_reducible refine cN ?_ _) | (with_reducible refine cD ?_))); (case side2 => exact HC0.out); rintro e w14 ⟨rfl, hb⟩; refine ⟨_, rfl, ?_⟩; replace HB := tB HB hb; (try clear hb); (try clear hb2); (try clear hk); (try clear hi)))
  go_ret2
  exact ⟨wQ, bQ⟩

def impl_at.f (l0 : List (S_impl_Peg)) (a1 : Int) : Option (Int × Int) := if (l0.length : Int) = 0 then (none) else (if 0 ≤ (Int.tmod (wrap64 ((Int.tmod a1 (l0.length : Int)) + (l0.length : Int))) (l0.length : Int)) then (if (Int.tmod (wrap64 ((Int.tmod a1 (l0.length : Int)) + (l0.length : Int))) (l0.length : Int)) < (l0.length : Int) then (some ((rd_impl_Peg l0 (Int.tmod (wrap64 ((Int.tmod a1 (l0.length : Int)) + (l0.length : Int))) (l0.length : Int))).f0, (rd_impl_Peg l0 (Int.tmod (wrap64 ((Int.tmod a1 (l0.length : Int)) + (l0.length : Int))) (l0.length : Int))).f1)) else (none)) else (none))
set_option maxHeartbeats 8000000 in
set_option maxRecDepth 100000 in
theorem impl_at.calls (A0 : Option Addr) (c0 : Nat) (l0 : List (S_impl_Peg)) (a1 : Int) (r1 : Int) (r2 : Int) (w : World) (hr0 : Kd.C kd_impl_Peg w A0 l0.length l0) (hc0 : l0.length ≤ c0) (h : impl_at.f l0 a1 = some (r1, r2)) :
  Calls Try.prog 106 #[.slice A0 l0.length c0, .int .i64 a1] w fun e w' => e = .returned (.agg #[.int .i64 r1, .int .i64 r2]) ∧ Below w.heap.size w w' := by
 have hu50 := Try.underlying50; have HR0 := aM hr0; have HC0 := aM hc0; clear hr0 hc0; have HB := aM (Below.refl w.heap.size w)
 unfold impl_at.f at h; have H := h; clear h
 replace H := iM H; obtain ⟨c3, H⟩ := H; have c3b0 : ((l0.length : Int) == 0) = false := beq_eq_false_iff_ne.mpr c3; have c3b1 : ((l0.length : Int) != 0) = true := bne_iff_ne.mpr c3; have c3b2 : ¬ (l0 = []) := fun h_ => c3 (by rw [h_]; rfl)
 obtain ⟨ji4, hji4⟩ : ∃ j_ : Int, (Int.tmod (wrap64 ((Int.tmod a1 (l0.length : Int)) + (l0.length : Int))) (l0.length : Int)) = j_ := ⟨_, rfl⟩
 (first | rw [hji4] at H | simp only [hji4] at H)
 replace H := iD H; obtain ⟨c5b0, H⟩ := H; replace H := iD H; obtain ⟨c6b0, H⟩ := H
 simp only [Option.some.injEq, Prod.mk.injEq] at H
 obtain ⟨rfl, rfl⟩ := H
 go_enter Try.func106, Try.ntmps106
 go_wp2_with (first | ((with_reducible refine gate_dst (N := 4) rfl ?_); refine bV 4 (cs := #[.int .i64 0, .int .i64 0]) (t := 50) rfl rfl (by first | (go_simp; done) | (go_simp; rfl)) ?_; intro gb199 hg w7 hbox hb; have BK199 := hbox; have GW199 := gZ HB hg; have GE199 := gZ HB hg; replace HB := tB HB hb; clear hb hbox hg; have p200 : 0 ≤ ((ji4) : Int) := dT aQ; have q200 : (ji4) < (l0.length : Int) := dT aQ; obtain ⟨ad200, e200, hx200_0, hx200_1⟩ := at_impl_Peg HR0.out (ji4) p200 q200; cases e200; replace hx200_0 := hC HB hx200_0; replace hx200_1 := hC HB hx200_1; replace p200 := eq_true p200; replace q200 := eq_true q200; have hcz8_0 := vZ0 BK199; have hcz8_1 := vZ1 BK199; have hfz8_0 := kF BK199.out 0; have hfz8_1 := kF BK199.out 1))
 refine bodyPost_ret (results_cell_row rfl _ _ gb199 50 #[.int .i64 ((rd_impl_Peg l0 (ji4)).f0), .int .i64 ((rd_impl_Peg l0 (ji4)).f1)] (0, 0) _ rfl (fQ BK199) Try.underlying50 rfl kR) rfl ?_
 exact ⟨by first | rfl | (simp [errW_none, errW_some] <;> rfl) | (simp only [← hji4]; first | rfl | (simp [errW_none, errW_some] <;> rfl)) | (simp [*, errW_none, errW_some] <;> rfl), bE⟩
def impl_within.f (a0 : Int) (a1 : Int) (a2 : Int) : Option (Bool) := if a0 ≥ a1 then (some (decide (a0 ≤ a2))) else (some false)
set_option maxHeartbeats 8000000 in
set_option maxRecDepth 100000 in
theorem impl_within.calls (a0 : Int) (a1 : Int) (a2 : Int) (r : Bool) (w : World) (h : impl_within.f a0 a1 a2 = some r) :
  Calls Try.prog 63 #[.int .i64 a0, .int .i64 a1, .int .i64 a2] w fun e w' => e = .returned (.bool r) ∧ Drawn0 w w' := by
 unfold impl_within.f at h; have H := h; clear h
 by_cases c4 : a0 ≥ a1
 ·rw [if_pos c4] at H; have c4b0 := dE c4; clear c4; obtain rfl := Option.some.inj H
  go_enter Try.func63, Try.ntmps63
  go_wp2
  go_ret
  exact ⟨eQ, dQ⟩
 ·rw [if_neg c4] at H; have c4b0 := decide_eq_false c4; clear c4; obtain rfl := Option.some.inj H
  go_enter Try.func63, Try.ntmps63
  go_wp2
  go_ret
  exact ⟨eQ, dQ⟩

def impl_Peg_less.f (a0_0 : Int) (a0_1 : Int) (a1_0 : Int) (a1_1 : Int) : Option (Int × Int) := some (wrap64 (a0_0 - a1_0), wrap64 (a0_1 - a1_1))
set_option maxHeartbeats 8000000 in
set_option maxRecDepth 100000 in
theorem impl_Peg_less.calls (a0_0 : Int) (a0_1 : Int) (a1_0 : Int) (a1_1 : Int) (r1 : Int) (r2 : Int) (w : World) (h : impl_Peg_less.f a0_0 a0_1 a1_0 a1_1 = some (r1, r2)) :
  Calls Try.prog 65 #[.agg #[.int .i64 a0_0, .int .i64 a0_1], .agg #[.int .i64 a1_0, .int .i64 a1_1]] w fun e w' => e = .returned (.agg #[.int .i64 r1, .int .i64 r2]) ∧ Below w.heap.size w w' := by
 have hu50 := Try.underlying50; have HB := aM (Below.refl w.heap.size w)
 unfold impl_Peg_less.f at h; have H := h; clear h
 simp only [Option.some.injEq, Prod.mk.injEq] at H
 obtain ⟨rfl, rfl⟩ := H
 go_enter Try.func65, Try.ntmps65
 go_wp2_with (first | ((with_reducible refine gate_dst (N := 2) rfl ?_); refine bV 2 (cs := #[.int .i64 a0_0, .int .i64 a0_1]) (t := 50) rfl rfl (by first | (go_simp; done) | (go_simp; rfl)) ?_; intro gb201 hg w3 hbox hb; have BK201 := hbox; have GW201 := gZ HB hg; have GE201 := gZ HB hg; replace HB := tB HB hb; clear hb hbox hg) | ((with_reducible refine gate_dst (N := 3) rfl ?_); refine bV 3 (cs := #[.int .i64 a1_0, .int .i64 a1_1]) (t := 50) rfl rfl (by first | (go_simp; done) | (go_simp; rfl)) ?_; intro gb202 hg w4 hbox hb; have BK202 := hbox; have GW202 := gZ HB hg; have GE202 := gZ HB hg; have NB201_202 := nG BK201 hg; have NB202_201 := nH BK201 hg; replace BK201 := bB BK201 hb; replace HB := tB HB hb; clear hb hbox hg) | ((with_reducible refine gate_dst (N := 4) rfl ?_); refine bV 4 (cs := #[.int .i64 0, .int .i64 0]) (t := 50) rfl rfl (by first | (go_simp; done) | (go_simp; rfl)) ?_; intro gb203 hg w5 hbox hb; have BK203 := hbox; have GW203 := gZ HB hg; have GE203 := gZ HB hg; have NB201_203 := nG BK201 hg; have NB203_201 := nH BK201 hg; have NB202_203 := nG BK202 hg; have NB203_202 := nH BK202 hg; replace BK201 := bB BK201 hb; replace BK202 := bB BK202 hb; replace HB := tB HB hb; clear hb hbox hg; have hnb6 := NB201_202.out; have hnc6 := NB202_201.out; have hnb7 := NB201_203.out; have hnc7 := NB203_201.out; have hcz8_0 := vZ0 BK201; have hcz8_1 := vZ1 BK201; have hfz8_0 := kF BK201.out 0; have hfz8_1 := kF BK201.out 1; have hnb9 := NB202_203.out; have hnc9 := NB203_202.out; have hcz10_0 := vZ0 BK202; have hcz10_1 := vZ1 BK202; have hfz10_0 := kF BK202.out 0; have hfz10_1 := kF BK202.out 1; have hcz11_0 := vZ0 BK203; have hcz11_1 := vZ1 BK203; have hfz11_0 := kF BK203.out 0; have hfz11_1 := kF BK203.out 1))
 refine bodyPost_ret (results_cell_row rfl _ _ gb203 50 #[.int .i64 (wrap64 (a0_0 - a1_0)), .int .i64 (wrap64 (a0_1 - a1_1))] (0, 0) _ rfl (fQ BK203) Try.underlying50 rfl kR) rfl ?_
 exact ⟨wQ, bE⟩

def impl_cross.f (a0_0 : Int) (a0_1 : Int) (a1_0 : Int) (a1_1 : Int) : Option (Int) := some (wrap64 ((wrap64 (a0_0 * a1_1)) - (wrap64 (a0_1 * a1_0))))
set_option maxHeartbeats 8000000 in
set_option maxRecDepth 100000 in
theorem impl_cross.calls (a0_0 : Int) (a0_1 : Int) (a1_0 : Int) (a1_1 : Int) (r : Int) (w : World) (h : impl_cross.f a0_0 a0_1 a1_0 a1_1 = some r) :
  Calls Try.prog 108 #[.agg #[.int .i64 a0_0, .int .i64 a0_1], .agg #[.int .i64 a1_0, .int .i64 a1_1]] w fun e w' => e = .returned (.int .i64 r) ∧ Below w.heap.size w w' := by
 have hu50 := Try.underlying50; have HB := aM (Below.refl w.heap.size w)
 unfold impl_cross.f at h; have H := h; clear h
 obtain rfl := Option.some.inj H
 go_enter Try.func108, Try.ntmps108
 go_wp2_with (first | ((with_reducible refine gate_dst (N := 2) rfl ?_); refine bV 2 (cs := #[.int .i64 a0_0, .int .i64 a0_1]) (t := 50) rfl rfl (by first | (go_simp; done) | (go_simp; rfl)) ?_; intro gb204 hg w3 hbox hb; have BK204 := hbox; have GW204 := gZ HB hg; have GE204 := gZ HB hg; replace HB := tB HB hb; clear hb hbox hg) | ((with_reducible refine gate_dst (N := 3) rfl ?_); refine bV 3 (cs := #[.int .i64 a1_0, .int .i64 a1_1]) (t := 50) rfl rfl (by first | (go_simp; done) | (go_simp; rfl)) ?_; intro gb205 hg w4 hbox hb; have BK205 := hbox; have GW205 := gZ HB hg; have GE205 := gZ HB hg; have NB204_205 := nG BK204 hg; have NB205_204 := nH BK204 hg; replace BK204 := bB BK204 hb; replace HB := tB HB hb; clear hb hbox hg; have hnb5 := NB204_205.out; have hnc5 := NB205_204.out; have hcz6_0 := vZ0 BK204; have hcz6_1 := vZ1 BK204; have hfz6_0 := kF BK204.out 0; have hfz6_1 := kF BK204.out 1; have hcz7_0 := vZ0 BK205; have hcz7_1 := vZ1 BK205; have hfz7_0 := kF BK205.out 0; have hfz7_1 := kF BK205.out 1))
 go_ret
 exact ⟨wQ, bE⟩

end Go.Proofs.Ytfihohongkfibaa.X
