-- thin
-- short
-- compact
import Derived.Test.YtoeclfihlhmnpaaDoorXA
import Derived.Test.YtoeclfihlhmnpaaDoorX0
import Derived.Test.YtoeclfihlhmnpaaDoorX6
import Derived.Test.YtoeclfihlhmnpaaDoorXW5
import Derived.Test.YtoeclfihlhmnpaaDoorXL
namespace Go.Proofs.YtoeclfihlhmnpaaDoor.X
open Go.RowKit Go.Proofs.YtoeclfihlhmnpaaDoor.XW Go.Proofs.YtoeclfihlhmnpaaDoorW.PrintWords Go.Proofs.YtoeclfihlhmnpaaDoorW.PrintLast Go.Proofs.YtoeclfihlhmnpaaDoorW.PrintMore
attribute [local go_sem] max2_int min2_int max_two min_two max_three min_three max_four min_four   -- for this text's walks alone
set_option linter.unusedVariables false
set_option linter.unusedSimpArgs false

def slices_IndexFunc_impl_Clue_at_impl_IsPuzzle_1.l0 : Nat → List (S_impl_Clue) → Int → Int → Int → List (S_impl_Clue) → Option (Int)
 | 0, _, _, _, _, _ => none
 | k + 1, x0, x7, x8, x2000, x2001 => if x8 < x7 then (if 0 ≤ x8 then (if x8 < (x0.length : Int) then ((impl_IsPuzzle_1.f k ((rd_impl_Clue x0 x8).f0) ((rd_impl_Clue x0 x8).f1) ((rd_impl_Clue x0 x8).f2) ((rd_impl_Clue x0 x8).f3) x2000 x2001).bind fun t190 => (if t190 = true then (some x8) else (slices_IndexFunc_impl_Clue_at_impl_IsPuzzle_1.l0 k x0 x7 (wrap64 (x8 + 1)) x2000 x2001))) else (none)) else (none)) else (some (-1))
def slices_IndexFunc_impl_Clue_at_impl_IsPuzzle_1.f (k : Nat) (l0 : List (S_impl_Clue)) (a1_0 : Int) (l1_1 : List (S_impl_Clue)) : Option (Int) := slices_IndexFunc_impl_Clue_at_impl_IsPuzzle_1.l0 k l0 (l0.length : Int) 0 a1_0 l1_1
theorem slices_IndexFunc_impl_Clue_at_impl_IsPuzzle_1.mono_l : ∀ k, (∀ y0 y1 y2 y3 y4, LeO (slices_IndexFunc_impl_Clue_at_impl_IsPuzzle_1.l0 k y0 y1 y2 y3 y4) (slices_IndexFunc_impl_Clue_at_impl_IsPuzzle_1.l0 (k + 1) y0 y1 y2 y3 y4))
 | 0 => fun _ _ _ _ _ r h => by simp [slices_IndexFunc_impl_Clue_at_impl_IsPuzzle_1.l0] at h
 | k + 1 => by
  have ih0 := slices_IndexFunc_impl_Clue_at_impl_IsPuzzle_1.mono_l k
  ·intro y0 y1 y2 y3 y4
   unfold slices_IndexFunc_impl_Clue_at_impl_IsPuzzle_1.l0
   repeat' first
   | (with_reducible exact ih0 _ _ _ _ _)
   | (with_reducible exact impl_IsPuzzle_1.mono _ _ _ _ _ _ _)
   | (with_reducible exact LeO.refl _)
   | (with_reducible exact LeO.none _)
   | (with_reducible refine LeO.ite ?_ ?_)
   | (with_reducible refine LeO.bind ?_ (fun _ => ?_))
   | exact ih0 _ _ _ _ _
   | exact impl_IsPuzzle_1.mono _ _ _ _ _ _ _
   | exact LeO.none _
   | refine LeO.ite ?_ ?_
   | refine LeO.bind ?_ (fun _ => ?_)
theorem slices_IndexFunc_impl_Clue_at_impl_IsPuzzle_1.mono : ∀ a0 a1 a2 k, LeO (slices_IndexFunc_impl_Clue_at_impl_IsPuzzle_1.f k a0 a1 a2) (slices_IndexFunc_impl_Clue_at_impl_IsPuzzle_1.f (k + 1) a0 a1 a2) := by
 intro a0 a1 a2 k
 have ih0 := slices_IndexFunc_impl_Clue_at_impl_IsPuzzle_1.mono_l k
 unfold slices_IndexFunc_impl_Clue_at_impl_IsPuzzle_1.f
 repeat' first | (with_reducible exact ih0 _ _ _ _ _) | (with_reducible exact impl_IsPuzzle_1.mono _ _ _ _ _ _ _) | (with_reducible exact LeO.refl _) | (with_reducible exact LeO.none _) | (with_reducible refine LeO.ite ?_ ?_) | (with_reducible refine LeO.bind ?_ (fun _ => ?_)) | exact ih0 _ _ _ _ _ | exact impl_IsPuzzle_1.mono _ _ _ _ _ _ _ | exact LeO.none _ | refine LeO.ite ?_ ?_ | refine LeO.bind ?_ (fun _ => ?_)
set_option maxHeartbeats 8000000 in
set_option maxRecDepth 100000 in
theorem slices_IndexFunc_impl_Clue_at_impl_IsPuzzle_1.calls (k : Nat) (A0 : Option Addr) (c0 : Nat) (l0 : List (S_impl_Clue)) (gx1 : Nat) (a1_0 : Int) (A1_1 : Option Addr) (c1_1 : Nat) (l1_1 : List (S_impl_Clue)) (r : Int) (w : World) (hr0 : Kd.C kd_impl_Clue w A0 l0.length l0) (hc0 : l0.length ≤ c0) (hr1_1 : Kd.C kd_impl_Clue w A1_1 l1_1.length l1_1) (hc1_1 : l1_1.length ≤ c1_1) (hbx1 : w.heap[gx1]? = some (.cells #[.int .i64 a1_0, .slice A1_1 l1_1.length c1_1] 24 (0, 0))) (h : slices_IndexFunc_impl_Clue_at_impl_IsPuzzle_1.f k l0 a1_0 l1_1 = some r) :
  Calls Tryd.prog 55 #[.slice A0 l0.length c0, .func (.func 35) #[] #[.pointer (some ⟨gx1, 0, none⟩)]] w fun e w' => e = .returned (.int .i64 r) ∧ Below w.heap.size w w' := by
 have hu48 := Tryd.underlying48; have HR0 := aM hr0; have HC0 := aM hc0; clear hr0 hc0; have HR1_1 := aM hr1_1; have HC1_1 := aM hc1_1; clear hr1_1 hc1_1; have BK1 := aM hbx1; clear hbx1; have HB := aM (Below.refl w.heap.size w)
 unfold slices_IndexFunc_impl_Clue_at_impl_IsPuzzle_1.f at h; have H := h; clear h
 have H' := aM H; clear H
 go_enter Tryd.func55, Tryd.ntmps55
 go_wp2
 go_loopg [8] k (fun kq v8 w' => ∃ (x8_1 : Int), v8 = .int .i64 x8_1 ∧ Aside0 (slices_IndexFunc_impl_Clue_at_impl_IsPuzzle_1.l0 kq l0 (l0.length : Int) x8_1 a1_0 l1_1 = some r) ∧ Aside0 (kq ≤ k) ∧ Aside0 (w'.heap[gx1]? = some (.cells #[.int .i64 a1_0, (.slice A1_1 l1_1.length c1_1)] 24 (0, 0))) ∧ Aside0 (Below w.heap.size w w'))
 case atStart => exact ⟨(0), eQ, H', ⟨Nat.le_refl _⟩, ⟨gQ BK1⟩, ⟨bE⟩⟩
 case round =>
  clear H'; obtain ⟨x8_1, rfl, HA, HK1, BK1, HB⟩ := hrel
  cases gk with
  | zero => exact absurd HA.out (by simp [slices_IndexFunc_impl_Clue_at_impl_IsPuzzle_1.l0])
  | succ k1 =>
   have H := HA.out; clear HA
   simp only [slices_IndexFunc_impl_Clue_at_impl_IsPuzzle_1.l0] at H
   by_cases c3 : x8_1 < (l0.length : Int)
   ·rw [if_pos c3] at H; have c3b0 := dE c3; clear c3; replace H := iD H; obtain ⟨c4b0, H⟩ := H; replace H := iD H; obtain ⟨c5b0, H⟩ := H; replace H := bS H; obtain ⟨t190, A6, H⟩ := H
    by_cases c7 : t190 = true
    ·subst c7; replace H := iT H; obtain rfl := Option.some.inj H; have p189 : 0 ≤ (x8_1 : Int) := dT aQ; have q189 : x8_1 < (l0.length : Int) := dT aQ; obtain ⟨ad189, e189, hx189_0, hx189_1, hx189_2, hx189_3⟩ := at_impl_Clue HR0.out x8_1 p189 q189
     cases e189
     replace hx189_0 := hC HB hx189_0; replace hx189_1 := hC HB hx189_1; replace hx189_2 := hC HB hx189_2; replace hx189_3 := hC HB hx189_3; replace p189 := eq_true p189; replace q189 := eq_true q189
     go_wp2_with (first | ((with_reducible refine gate_tmp rfl ?_); refine goesLTC_ (some 16) rfl rfl Tryd.func35 kR rfl #[.agg #[.int .i64 ((rd_impl_Clue l0 x8_1).f0), .int .i64 ((rd_impl_Clue l0 x8_1).f1), .int .i64 ((rd_impl_Clue l0 x8_1).f2), .int .i64 ((rd_impl_Clue l0 x8_1).f3)], .pointer (some ⟨gx1, 0, none⟩)] #[] #[.pointer (some ⟨gx1, 0, none⟩)] rfl (by first | rfl | (simp [Act.eval]; done)) (by (try simp only [mA, mC, mN, List.append_toArray, List.nil_append, List.cons_append, List.append_nil]); (try simp only [mA, mC, mN]); first | done | rfl | (simp only [lD, lT]; rfl)) ?_; (with_reducible refine (impl_IsPuzzle_1.calls k1 ((rd_impl_Clue l0 x8_1).f0) ((rd_impl_Clue l0 x8_1).f1) ((rd_impl_Clue l0 x8_1).f2) ((rd_impl_Clue l0 x8_1).f3) gx1 a1_0 A1_1 c1_1 l1_1 true _ ?side1 ?side2 ?side3 A6.out).mono ?_); (case side1 => repeat (first | exact (Kd.C_below HR1_1.out HB.out) | (with_reducible refine cA ?_ _) | (with_reducible refine cN ?_ _) | (with_reducible refine cD ?_))); (case side2 => exact HC1_1.out); (case side3 => exact (gQ BK1)); rintro e w8 ⟨rfl, hb⟩; refine ⟨_, rfl, ?_⟩; replace BK1 := aM (blk_below (g := gx1) (o := .cells #[.int .i64 a1_0, .slice A1_1 l1_1.length c1_1] 24 (0, 0)) (gQ BK1) hb); replace HB := tB HB hb; (try clear hb); (try clear hb2); (try clear hk); (try clear hi)))
     go_ret
     exact ⟨wQ, bE⟩
    ·replace c7 := Bool.eq_false_iff.mpr c7; subst c7; replace H := iF H; have H' := aM H; clear H; have p189 : 0 ≤ (x8_1 : Int) := dT aQ; have q189 : x8_1 < (l0.length : Int) := dT aQ; obtain ⟨ad189, e189, hx189_0, hx189_1, hx189_2, hx189_3⟩ := at_impl_Clue HR0.out x8_1 p189 q189
     cases e189
     replace hx189_0 := hC HB hx189_0; replace hx189_1 := hC HB hx189_1; replace hx189_2 := hC HB hx189_2; replace hx189_3 := hC HB hx189_3; replace p189 := eq_true p189; replace q189 := eq_true q189
     go_wp2_with (first | ((with_reducible refine gate_tmp rfl ?_); refine goesLTC_ (some 16) rfl rfl Tryd.func35 kR rfl #[.agg #[.int .i64 ((rd_impl_Clue l0 x8_1).f0), .int .i64 ((rd_impl_Clue l0 x8_1).f1), .int .i64 ((rd_impl_Clue l0 x8_1).f2), .int .i64 ((rd_impl_Clue l0 x8_1).f3)], .pointer (some ⟨gx1, 0, none⟩)] #[] #[.pointer (some ⟨gx1, 0, none⟩)] rfl (by first | rfl | (simp [Act.eval]; done)) (by (try simp only [mA, mC, mN, List.append_toArray, List.nil_append, List.cons_append, List.append_nil]); (try simp only [mA, mC, mN]); first | done | rfl | (simp only [lD, lT]; rfl)) ?_; (with_reducible refine (impl_IsPuzzle_1.calls k1 ((rd_impl_Clue l0 x8_1).f0) ((rd_impl_Clue l0 x8_1).f1) ((rd_impl_Clue l0 x8_1).f2) ((rd_impl_Clue l0 x8_1).f3) gx1 a1_0 A1_1 c1_1 l1_1 false _ ?side1 ?side2 ?side3 A6.out).mono ?_); (case side1 => repeat (first | exact (Kd.C_below HR1_1.out HB.out) | (with_reducible refine cA ?_ _) | (with_reducible refine cN ?_ _) | (with_reducible refine cD ?_))); (case side2 => exact HC1_1.out); (case side3 => exact (gQ BK1)); rintro e w9 ⟨rfl, hb⟩; refine ⟨_, rfl, ?_⟩; replace BK1 := aM (blk_below (g := gx1) (o := .cells #[.int .i64 a1_0, .slice A1_1 l1_1.length c1_1] 24 (0, 0)) (gQ BK1) hb); replace HB := tB HB hb; (try clear hb); (try clear hb2); (try clear hk); (try clear hi)))
     go_roundg k1
     case measure => have := HK1.out; omega
     case rel => exact ⟨(wrap64 (x8_1 + 1)), eQ, H', ⟨by have := HK1.out; omega⟩, ⟨gQ BK1⟩, ⟨bE⟩⟩
   ·rw [if_neg c3] at H; have c3b0 := decide_eq_false c3; clear c3; obtain rfl := Option.some.inj H; go_wp2
    go_ret
    exact ⟨wQ, bE⟩

def slices_ContainsFunc_impl_Clue_at_impl_IsPuzzle_1.f (k : Nat) (l0 : List (S_impl_Clue)) (a1_0 : Int) (l1_1 : List (S_impl_Clue)) : Option (Bool) := (slices_IndexFunc_impl_Clue_at_impl_IsPuzzle_1.f k l0 a1_0 l1_1).bind fun t191 => (some (decide (t191 ≥ 0)))
theorem slices_ContainsFunc_impl_Clue_at_impl_IsPuzzle_1.mono : ∀ a0 a1 a2 k, LeO (slices_ContainsFunc_impl_Clue_at_impl_IsPuzzle_1.f k a0 a1 a2) (slices_ContainsFunc_impl_Clue_at_impl_IsPuzzle_1.f (k + 1) a0 a1 a2) := by
 intro a0 a1 a2 k
 unfold slices_ContainsFunc_impl_Clue_at_impl_IsPuzzle_1.f
 repeat' first | (with_reducible exact slices_IndexFunc_impl_Clue_at_impl_IsPuzzle_1.mono _ _ _ _) | (with_reducible exact LeO.refl _) | (with_reducible exact LeO.none _) | (with_reducible refine LeO.ite ?_ ?_) | (with_reducible refine LeO.bind ?_ (fun _ => ?_)) | exact slices_IndexFunc_impl_Clue_at_impl_IsPuzzle_1.mono _ _ _ _ | exact LeO.none _ | refine LeO.ite ?_ ?_ | refine LeO.bind ?_ (fun _ => ?_)
set_option maxHeartbeats 8000000 in
set_option maxRecDepth 100000 in
theorem slices_ContainsFunc_impl_Clue_at_impl_IsPuzzle_1.calls (k : Nat) (A0 : Option Addr) (c0 : Nat) (l0 : List (S_impl_Clue)) (gx1 : Nat) (a1_0 : Int) (A1_1 : Option Addr) (c1_1 : Nat) (l1_1 : List (S_impl_Clue)) (r : Bool) (w : World) (hr0 : Kd.C kd_impl_Clue w A0 l0.length l0) (hc0 : l0.length ≤ c0) (hr1_1 : Kd.C kd_impl_Clue w A1_1 l1_1.length l1_1) (hc1_1 : l1_1.length ≤ c1_1) (hbx1 : w.heap[gx1]? = some (.cells #[.int .i64 a1_0, .slice A1_1 l1_1.length c1_1] 24 (0, 0))) (h : slices_ContainsFunc_impl_Clue_at_impl_IsPuzzle_1.f k l0 a1_0 l1_1 = some r) :
  Calls Tryd.prog 34 #[.slice A0 l0.length c0, .func (.func 35) #[] #[.pointer (some ⟨gx1, 0, none⟩)]] w fun e w' => e = .returned (.bool r) ∧ Below w.heap.size w w' := by
 have HR0 := aM hr0; have HC0 := aM hc0; clear hr0 hc0; have HR1_1 := aM hr1_1; have HC1_1 := aM hc1_1; clear hr1_1 hc1_1; have BK1 := aM hbx1; clear hbx1; have HB := aM (Below.refl w.heap.size w)
 unfold slices_ContainsFunc_impl_Clue_at_impl_IsPuzzle_1.f at h; have H := h; clear h
 replace H := bS H; obtain ⟨t191, A3, H⟩ := H; obtain rfl := Option.some.inj H
 go_enter Tryd.func34, Tryd.ntmps34
 go_wp2_with (first | ((with_reducible refine gC (f := 55) rfl ?_); refine goesL_ (some 7) rfl rfl Tryd.func55 kR rfl #[.slice A0 l0.length c0, .func (.func 35) #[] #[.pointer (some ⟨gx1, 0, none⟩)]] rfl sQ ?_; (with_reducible refine (slices_IndexFunc_impl_Clue_at_impl_IsPuzzle_1.calls k _ _ l0 gx1 a1_0 A1_1 c1_1 l1_1 t191 _ ?side1 ?side2 ?side3 ?side4 ?side5 A3.out).mono ?_); (case side1 => repeat (first | exact HR0.out | (with_reducible refine cA ?_ _) | (with_reducible refine cN ?_ _) | (with_reducible refine cD ?_))); (case side2 => exact HC0.out); (case side3 => repeat (first | exact HR1_1.out | (with_reducible refine cA ?_ _) | (with_reducible refine cN ?_ _) | (with_reducible refine cD ?_))); (case side4 => exact HC1_1.out); (case side5 => exact (gQ BK1)); rintro e w4 ⟨rfl, hb⟩; refine ⟨_, rfl, ?_⟩; replace BK1 := aM (blk_below (g := gx1) (o := .cells #[.int .i64 a1_0, .slice A1_1 l1_1.length c1_1] 24 (0, 0)) (gQ BK1) hb); replace HB := tB HB hb; (try clear hb); (try clear hb2); (try clear hk); (try clear hi)))
 go_ret
 exact ⟨wQ, bE⟩

def impl_IsPuzzle.f (k : Nat) (a0_0 : Int) (l0_1 : List (S_impl_Clue)) : Option (Bool) := (impl_isSide.f a0_0).bind fun t193 => (if t193 = true then (if (l0_1.length : Int) ≤ 6 then ((slices_ContainsFunc_impl_Clue_at_impl_IsPuzzle_1.f k l0_1 a0_0 l0_1).bind fun t194 => (some (!t194))) else (some false)) else (some false))
theorem impl_IsPuzzle.mono : ∀ a0 a1 k, LeO (impl_IsPuzzle.f k a0 a1) (impl_IsPuzzle.f (k + 1) a0 a1) := by
 intro a0 a1 k
 unfold impl_IsPuzzle.f
 repeat' first | (with_reducible exact slices_ContainsFunc_impl_Clue_at_impl_IsPuzzle_1.mono _ _ _ _) | (with_reducible exact LeO.refl _) | (with_reducible exact LeO.none _) | (with_reducible refine LeO.ite ?_ ?_) | (with_reducible refine LeO.bind ?_ (fun _ => ?_)) | exact slices_ContainsFunc_impl_Clue_at_impl_IsPuzzle_1.mono _ _ _ _ | exact LeO.none _ | refine LeO.ite ?_ ?_ | refine LeO.bind ?_ (fun _ => ?_)
set_option maxHeartbeats 8000000 in
set_option maxRecDepth 100000 in
theorem impl_IsPuzzle.calls (k : Nat) (a0_0 : Int) (A0_1 : Option Addr) (c0_1 : Nat) (l0_1 : List (S_impl_Clue)) (r : Bool) (w : World) (hr0_1 : Kd.C kd_impl_Clue w A0_1 l0_1.length l0_1) (hc0_1 : l0_1.length ≤ c0_1) (h : impl_IsPuzzle.f k a0_0 l0_1 = some r) :
  Calls Tryd.prog 18 #[.agg #[.int .i64 a0_0, .slice A0_1 l0_1.length c0_1]] w fun e w' => e = .returned (.bool r) ∧ Below w.heap.size w w' := by
 have hu24 := Tryd.underlying24; have HR0_1 := aM hr0_1; have HC0_1 := aM hc0_1; clear hr0_1 hc0_1; have HB := aM (Below.refl w.heap.size w)
 unfold impl_IsPuzzle.f at h; have H := h; clear h
 replace H := bS H; obtain ⟨t193, A2, H⟩ := H
 by_cases c3 : t193 = true
 ·subst c3; replace H := iT H
  by_cases c4 : (l0_1.length : Int) ≤ 6
  ·rw [if_pos c4] at H; have c4b0 := dE c4; have c4b1 : decide (l0_1.length ≤ 6) = true := dE (by omega)
   clear c4; replace H := bS H; obtain ⟨t194, A5, H⟩ := H; obtain rfl := Option.some.inj H
   go_enter Tryd.func18, Tryd.ntmps18
   go_wp2_with (first | ((with_reducible refine gate_dst (N := 1) rfl ?_); (try (refine gate_guard (by rfl) ?_; dsimp only)); refine bV 1 (cs := #[.int .i64 a0_0, .slice A0_1 l0_1.length c0_1]) (t := 24) rfl rfl (by first | (go_simp; done) | (go_simp; rfl)) ?_; intro gb192 hg w6 hbox hb; have BK192 := hbox; have GW192 := gZ HB hg; have GE192 := gZ HB hg; replace HB := tB HB hb; clear hb hbox hg; have hcz7_0 := vZ0 BK192; have hcz7_1 := vZ1 BK192; have hfz7_0 := kF BK192.out 0; have hfz7_1 := kF BK192.out 1) | ((with_reducible refine gC (f := 33) rfl ?_); refine goesL_ (some 5) rfl rfl Tryd.func33 kR rfl #[.int .i64 a0_0] rfl sQ ?_; (with_reducible refine (impl_isSide.calls a0_0 true _ A2.out).mono ?_); rintro e w' ⟨rfl, ⟨nd, rfl⟩⟩; refine ⟨_, rfl, ?_⟩) | (go_at_call 34; (with_reducible refine (slices_ContainsFunc_impl_Clue_at_impl_IsPuzzle_1.calls k _ _ l0_1 gb192 a0_0 A0_1 c0_1 l0_1 t194 _ ?side1 ?side2 ?side3 ?side4 ?side5 A5.out).mono ?_); (case side1 => repeat (first | exact (Kd.C_below HR0_1.out bE) | (with_reducible refine cA ?_ _) | (with_reducible refine cN ?_ _) | (with_reducible refine cD ?_))); (case side2 => exact HC0_1.out); (case side3 => repeat (first | exact (Kd.C_below HR0_1.out bE) | (with_reducible refine cA ?_ _) | (with_reducible refine cN ?_ _) | (with_reducible refine cD ?_))); (case side4 => exact HC0_1.out); (case side5 => exact (gQ BK192)); rintro e w8 ⟨rfl, hb⟩; replace BK192 := bB BK192 hb; replace HB := tB HB hb; (try clear hb); (try clear hb2); (try clear hk); (try clear hi)))
   go_ret
   exact ⟨wQ, bE⟩
  ·rw [if_neg c4] at H; have c4b0 := decide_eq_false c4; have c4b1 : decide (l0_1.length ≤ 6) = false := decide_eq_false (by omega)
   clear c4; obtain rfl := Option.some.inj H
   go_enter Tryd.func18, Tryd.ntmps18
   go_wp2_with (first | ((with_reducible refine gate_dst (N := 1) rfl ?_); (try (refine gate_guard (by rfl) ?_; dsimp only)); refine bV 1 (cs := #[.int .i64 a0_0, .slice A0_1 l0_1.length c0_1]) (t := 24) rfl rfl (by first | (go_simp; done) | (go_simp; rfl)) ?_; intro gb192 hg w9 hbox hb; have BK192 := hbox; have GW192 := gZ HB hg; have GE192 := gZ HB hg; replace HB := tB HB hb; clear hb hbox hg; have hcz10_0 := vZ0 BK192; have hcz10_1 := vZ1 BK192; have hfz10_0 := kF BK192.out 0; have hfz10_1 := kF BK192.out 1) | ((with_reducible refine gC (f := 33) rfl ?_); refine goesL_ (some 5) rfl rfl Tryd.func33 kR rfl #[.int .i64 a0_0] rfl sQ ?_; (with_reducible refine (impl_isSide.calls a0_0 true _ A2.out).mono ?_); rintro e w' ⟨rfl, ⟨nd, rfl⟩⟩; refine ⟨_, rfl, ?_⟩))
   go_ret
   exact ⟨wQ, bE⟩
 ·replace c3 := Bool.eq_false_iff.mpr c3; subst c3; replace H := iF H; obtain rfl := Option.some.inj H
  go_enter Tryd.func18, Tryd.ntmps18
  go_wp2_with (first | ((with_reducible refine gate_dst (N := 1) rfl ?_); (try (refine gate_guard (by rfl) ?_; dsimp only)); refine bV 1 (cs := #[.int .i64 a0_0, .slice A0_1 l0_1.length c0_1]) (t := 24) rfl rfl (by first | (go_simp; done) | (go_simp; rfl)) ?_; intro gb192 hg w11 hbox hb; have BK192 := hbox; have GW192 := gZ HB hg; have GE192 := gZ HB hg; replace HB := tB HB hb; clear hb hbox hg; have hcz12_0 := vZ0 BK192; have hcz12_1 := vZ1 BK192; have hfz12_0 := kF BK192.out 0; have hfz12_1 := kF BK192.out 1) | ((with_reducible refine gC (f := 33) rfl ?_); refine goesL_ (some 5) rfl rfl Tryd.func33 kR rfl #[.int .i64 a0_0] rfl sQ ?_; (with_reducible refine (impl_isSide.calls a0_0 false _ A2.out).mono ?_); rintro e w' ⟨rfl, ⟨nd, rfl⟩⟩; refine ⟨_, rfl, ?_⟩))
  go_ret
  exact ⟨wQ, bE⟩

-- EXT strings.Join rounds=0 making=1
def strings_Join.f (l0 : List ByteArray) (a1 : ByteArray) : Option ByteArray := if l0.length ≤ 140737488355328 then (if (Lib.join (l0.map (·.data.toList)) a1.data.toList).length ≤ 140737488355328 then some ⟨(Lib.join (l0.map (·.data.toList)) a1.data.toList).toArray⟩ else none) else none
theorem strings_Join.calls (A0 : Option Addr) (c0 : Nat) (l0 : List ByteArray) (a1 : ByteArray) (r : ByteArray) (w : World) (hr0 : Kd.C Kd.string w A0 l0.length l0) (hc0 : l0.length ≤ c0) (h : strings_Join.f l0 a1 = some r) (hA : A0 = none ∨ ∃ g, A0 = some ⟨g, 0, none⟩ := by exact own_at (by assumption)) :
  Calls Tryd.prog 38 #[.slice A0 l0.length c0, .string a1] w fun e w' => e = .returned (.string r) ∧ Below w.heap.size w w' := by
 unfold strings_Join.f at h
 by_cases c1 : l0.length ≤ 140737488355328
 ·rw [if_pos c1] at h
  by_cases c2 : (Lib.join (l0.map (·.data.toList)) a1.data.toList).length ≤ 140737488355328
  ·rw [if_pos c2] at h; obtain rfl := Option.some.inj h
   by_cases c3 : l0 = []
   ·subst c3
    refine (Tryd.strings_Join_none A0 c0 a1 w).mono ?_
    rintro e w' ⟨rfl, rfl⟩
    exact ⟨rfl, Below.refl _ _⟩
   ·have hp : 0 < l0.length := List.length_pos_iff.2 c3; obtain ⟨hlen, hb, hcell⟩ := hr0; obtain ⟨ad, rfl, hcs⟩ := hcell hp; obtain ⟨g, hg⟩ : ∃ g, ad = ⟨g, 0, none⟩ := by
     rcases hA with hA | ⟨g, hA⟩
     ·cases hA
     ·exact ⟨g, Option.some.inj hA⟩
    subst hg; have hcells : ∀ (j : Nat) x, l0[j]? = some x → w.cell? ⟨g, 0 + j, none⟩ = some (.string x) := fun j x hx => by
     obtain ⟨c, hs, hR, hcl⟩ := hcs j x hx; have hk := hR; obtain rfl : c = [.string x] := hk; have := hcl 0 _ rfl; have e1 : Kd.string.sz = 1 := rfl; rw [e1, Nat.mul_one, Nat.add_zero] at this; have e2 : (⟨g, 0, none⟩ : Addr).add j = ⟨g, 0 + j, none⟩ := by cases j <;> simp [Addr.add]
     rw [e2] at this
     exact this
    have hbk : g < w.heap.size := by
     have h0 := hcells 0 _ (List.getElem?_eq_getElem hp)
     by_cases c : g < w.heap.size
     ·exact c
     ·unfold World.cell? at h0
      rw [Array.getElem?_eq_none (by show w.heap.size ≤ g; omega)] at h0
      exact absurd h0 (by simp)
    exact Tryd.strings_Join g 0 c0 l0 a1 w hcells hbk c1 hc0 c2
  ·rw [if_neg c2] at h
   exact absurd h (by simp)
 ·rw [if_neg c1] at h
  exact absurd h (by simp)

end Go.Proofs.YtoeclfihlhmnpaaDoor.X
