-- thin
-- short
-- compact
import Derived.Test.YtphkphjddkjabaaXA
import Derived.Test.YtphkphjddkjabaaX0
import Derived.Test.YtphkphjddkjabaaX1
import Derived.Test.YtphkphjddkjabaaX9
import Derived.Test.YtphkphjddkjabaaX10
import Derived.Test.YtphkphjddkjabaaXW2
namespace Go.Proofs.Ytphkphjddkjabaa.X
open Go.RowKit Go.Proofs.Ytphkphjddkjabaa.XW Go.Proofs.YtphkphjddkjabaaW.PrintWords Go.Proofs.YtphkphjddkjabaaW.PrintLast Go.Proofs.YtphkphjddkjabaaW.PrintMore
attribute [local go_sem] max2_int min2_int max_two min_two max_three min_three max_four min_four   -- for this text's walks alone
set_option linter.unusedVariables false
set_option linter.unusedSimpArgs false

attribute [local go_sem high] eqA38
def impl_told.l0 : Nat → List (S_impl_Peg) → Int → Int → List (S_impl_Peg) → Int → Int → Option ((List (S_impl_Peg)))
 | 0, _, _, _, _, _, _ => none
 | k + 1, x0, x1, x2, x7, x13, x14 => if x14 < x13 then ((impl_at.f x0 (wrap64 (x1 + (wrap64 (x14 * x2))))).bind fun bt372 => (if x7.length < 8796093022208 then (impl_told.l0 k x0 x1 x2 (x7 ++ [(⟨bt372.1, bt372.2⟩ : S_impl_Peg)]) x13 (wrap64 (x14 + 1))) else (none))) else (some x7)
def impl_told.f (k : Nat) (l0 : List (S_impl_Peg)) (a1 : Int) (a2 : Int) : Option ((List (S_impl_Peg))) := if 0 ≤ (l0.length : Int) then (if ((l0.length : Int) : Int).toNat ≤ 17592186044416 then (impl_told.l0 k l0 a1 a2 (([] : List (S_impl_Peg))) (l0.length : Int) 0) else (none)) else (none)
theorem impl_told.mono_l : ∀ k, (∀ y0 y1 y2 y3 y4 y5, LeO (impl_told.l0 k y0 y1 y2 y3 y4 y5) (impl_told.l0 (k + 1) y0 y1 y2 y3 y4 y5))
 | 0 => fun _ _ _ _ _ _ r h => by simp [impl_told.l0] at h
 | k + 1 => by
  have ih0 := impl_told.mono_l k
  ·intro y0 y1 y2 y3 y4 y5
   unfold impl_told.l0
   repeat' first
   | (with_reducible exact ih0 _ _ _ _ _ _)
   | (with_reducible exact LeO.refl _)
   | (with_reducible exact LeO.none _)
   | (with_reducible refine LeO.ite ?_ ?_)
   | (with_reducible refine LeO.bind ?_ (fun _ => ?_))
   | exact ih0 _ _ _ _ _ _
   | exact LeO.none _
   | refine LeO.ite ?_ ?_
   | refine LeO.bind ?_ (fun _ => ?_)
theorem impl_told.mono : ∀ a0 a1 a2 k, LeO (impl_told.f k a0 a1 a2) (impl_told.f (k + 1) a0 a1 a2) := by
 intro a0 a1 a2 k
 have ih0 := impl_told.mono_l k
 unfold impl_told.f
 repeat' first | (with_reducible exact ih0 _ _ _ _ _ _) | (with_reducible exact LeO.refl _) | (with_reducible exact LeO.none _) | (with_reducible refine LeO.ite ?_ ?_) | (with_reducible refine LeO.bind ?_ (fun _ => ?_)) | exact ih0 _ _ _ _ _ _ | exact LeO.none _ | refine LeO.ite ?_ ?_ | refine LeO.bind ?_ (fun _ => ?_)
set_option maxHeartbeats 8000000 in
set_option maxRecDepth 100000 in
theorem impl_told.calls (k : Nat) (A0 : Option Addr) (c0 : Nat) (l0 : List (S_impl_Peg)) (a1 : Int) (a2 : Int) (r : List (S_impl_Peg)) (w : World) (hr0 : Kd.C kd_impl_Peg w A0 l0.length l0) (hc0 : l0.length ≤ c0) (h : impl_told.f k l0 a1 a2 = some r) :
  Calls Try.prog 17 #[.slice A0 l0.length c0, .int .i64 a1, .int .i64 a2] w fun e w' => ∃ v0_ : Value, e = .returned (v0_) ∧ Kd.R kd_impl_Peg 38 w' w.heap.size (fun _ => True) v0_ r ∧ Below w.heap.size w w' := by
 have HR0 := aM hr0; have HC0 := aM hc0; clear hr0 hc0; have HB := aM (Below.refl w.heap.size w)
 unfold impl_told.f at h; have H := h; clear h
 replace H := iN H; obtain ⟨c4, H⟩ := H; have c4b0 := eq_true c4; have c4b1 := dE c4; clear c4; replace H := iN H; obtain ⟨c5, H⟩ := H; have c5b0 := eq_true c5; have c5b1 := dE c5; clear c5; obtain ⟨y369, hy369⟩ : ∃ y_ : List (S_impl_Peg), y_ = (([] : List (S_impl_Peg))) := ⟨_, rfl⟩; rw [← hy369] at H; have Ny369 := aM hy369; clear hy369; have H' := aM H; clear H
 go_enter Try.func17, Try.ntmps17
 go_wp2_with (first | ((with_reducible refine gate_dst (N := 11) rfl ?_); refine Kd.R_makecap kd_impl_Peg _ 38 rfl (N := 11) rfl 28 _ _ rfl (l0.length : Int) rfl rfl Try.underlying28 (.agg #[(.int .i64 0), (.int .i64 0)]) 16 info38 rfl (by decide) (by omega) z_impl_Peg (ok := fun _ => True) (okp := fun _ => True) (kd_impl_Peg_mkM _ _ _ z_impl_Peg ) (fun _ hk => hk) trivial (dT aQ) (Nat.le_trans (Nat.mul_le_mul_right _ (dT aQ : (l0.length : Int).toNat ≤ 17592186044416)) (by omega)) (Below.refl _ _) (Nat.le_refl _) ?_; intro v370 w6 ho7 hb hg_ hnew_; clear hg_ hnew_; (first | rw [← Ny369.out] at ho7 | (simp only [Int.reduceToNat] at ho7; rw [← Ny369.out] at ho7)); have HO371 := aM (Kd.R_lower ho7 (pZ bQ)); replace HB := tB HB hb; clear hb ho7))
 go_loopg [7, 14] k (fun kq v7 v14 w' => ∃ (x7_1 : List (S_impl_Peg)) (x14_1 : Int), v14 = .int .i64 x14_1 ∧ Aside0 (impl_told.l0 kq l0 a1 a2 x7_1 (l0.length : Int) x14_1 = some r) ∧ Aside0 (kq ≤ k) ∧ Aside0 (Kd.R kd_impl_Peg 38 w' w.heap.size (fun _ => True) v7 x7_1) ∧ Aside0 (Below w.heap.size w w'))
 case atStart => exact ⟨(y369), (0), eQ, H', ⟨Nat.le_refl _⟩, ⟨by (with_reducible repeat (first | apply rA | apply rN | apply rD)); exact HO371.out⟩, ⟨bQ⟩⟩
 case round =>
  clear H'; (try clear c4); (try clear c4b0); (try clear c4b1); (try clear c5); (try clear c5b0); (try clear c5b1); obtain ⟨x7_1, x14_1, rfl, HA, HK1, HO_7, HB⟩ := hrel
  cases gk with
  | zero => exact absurd HA.out (by simp [impl_told.l0])
  | succ k1 =>
   have H := HA.out; clear HA
   simp only [impl_told.l0] at H
   by_cases c8 : x14_1 < (l0.length : Int)
   ·rw [if_pos c8] at H; have c8b0 := dE c8; clear c8; replace H := bS H; obtain ⟨⟨t372, t373⟩, A9, H⟩ := H; replace H := iN H; obtain ⟨c10, H⟩ := H; have LMc10 := aM c10; clear c10; obtain ⟨y374, hy374⟩ : ∃ y_ : List (S_impl_Peg), y_ = (x7_1 ++ [(⟨t372, t373⟩ : S_impl_Peg)]) := ⟨_, rfl⟩; rw [← hy374] at H; have Ny374 := aM hy374; clear hy374; have H' := aM H; clear H
    go_wp2_with (first | ((with_reducible refine gC (f := 33) rfl ?_); refine goesL_ (some 24) rfl rfl Try.func33 kR rfl #[.slice A0 l0.length c0, .int .i64 (wrap64 (a1 + (wrap64 (x14_1 * a2))))] rfl sQ ?_; (with_reducible refine (impl_at.calls _ _ l0 (wrap64 (a1 + (wrap64 (x14_1 * a2)))) t372 t373 _ ?side1 ?side2 A9.out).mono ?_); (case side1 => repeat (first | exact (Kd.C_below HR0.out HB.out) | (with_reducible refine cA ?_ _) | (with_reducible refine cN ?_ _) | (with_reducible refine cD ?_))); (case side2 => exact HC0.out); rintro e w11 ⟨rfl, hb⟩; refine ⟨_, rfl, ?_⟩; replace HO_7 := aM (Kd.R_below (by (with_reducible repeat (first | apply rA | apply rN | apply rD)); exact HO_7.out) hb); replace HB := tB HB hb; (try clear hb); (try clear hb2); (try clear hk); (try clear hi)) | ((with_reducible refine gate_builtin (b := .append) (xs := #[.tmp 17, .tmp 25]) rfl ?_); at_builtin; refine Kd.R_append kd_impl_Peg (w0 := w) w.heap.size rfl (.tmp 17) (.tmp 25) 28 38 (.agg #[(.int .i64 0), (.int .i64 0)]) 16 rfl Try.underlying28 info38 rfl (by decide) (by omega) u7 x7_1 (⟨t372, t373⟩ : S_impl_Peg) [.int .i64 t372, .int .i64 t373] (fun _ => True) (fun _ => False) rfl rfl ?aP (fun _ hk => hk.elim) ?aF ?aO ?aB ?aS ?aL ?_; (case aP => exact kd_impl_Peg_mkM _ _ _ (⟨t372, t373⟩ : S_impl_Peg)); (case aB => exact bQ); (case aF => exact (fun _ _ => trivial)); (case aO => exact (by (with_reducible repeat (first | apply rA | apply rN | apply rD)); exact HO_7.out)); (case aS => exact (pZ bQ)); (case aL => have := LMc10.out; omega); intro v375 w12 ho hb hg hat; rw [← Ny374.out] at ho; have n0_ := aM (hb); have n1_ := aM (ho); clear HB; clear HO_7; have HB := n0_; have HO376 := n1_; clear n0_ n1_; clear ho hb hg hat))
    go_roundg k1
    case measure => have := HK1.out; omega
    case rel => exact ⟨(y374), (wrap64 (x14_1 + 1)), eQ, H', ⟨by have := HK1.out; omega⟩, ⟨by (with_reducible repeat (first | apply rA | apply rN | apply rD)); exact HO376.out⟩, ⟨bQ⟩⟩
   ·rw [if_neg c8] at H; have c8b0 := decide_eq_false c8; clear c8; obtain rfl := Option.some.inj H; go_wp2
    go_ret
    exact ⟨_, by first | rfl | (simp [errW_none, errW_some] <;> rfl) | (simp [*, errW_none, errW_some] <;> rfl), by (with_reducible repeat (first | apply rA | apply rN | apply rD)); exact HO_7.out, bQ⟩
def slices_Equal_impl_Peg.l0 : Nat → List (S_impl_Peg) → List (S_impl_Peg) → Int → Int → Option (Bool)
 | 0, _, _, _, _ => none
 | k + 1, x0, x1, x12, x13 => if x13 < x12 then (if 0 ≤ x13 then (if x13 < (x0.length : Int) then (if x13 < (x1.length : Int) then (if (!(((rd_impl_Peg x0 x13).f0) == ((rd_impl_Peg x1 x13).f0)) || (!(((rd_impl_Peg x0 x13).f1) == ((rd_impl_Peg x1 x13).f1)))) = true then (some false) else (slices_Equal_impl_Peg.l0 k x0 x1 x12 (wrap64 (x13 + 1)))) else (none)) else (none)) else (none)) else (some true)
def slices_Equal_impl_Peg.f (k : Nat) (l0 : List (S_impl_Peg)) (l1 : List (S_impl_Peg)) : Option (Bool) := if (l0.length : Int) = (l1.length : Int) then (slices_Equal_impl_Peg.l0 k l0 l1 (l0.length : Int) 0) else (some false)
theorem slices_Equal_impl_Peg.mono_l : ∀ k, (∀ y0 y1 y2 y3, LeO (slices_Equal_impl_Peg.l0 k y0 y1 y2 y3) (slices_Equal_impl_Peg.l0 (k + 1) y0 y1 y2 y3))
 | 0 => fun _ _ _ _ r h => by simp [slices_Equal_impl_Peg.l0] at h
 | k + 1 => by
  have ih0 := slices_Equal_impl_Peg.mono_l k
  ·intro y0 y1 y2 y3
   unfold slices_Equal_impl_Peg.l0
   repeat' first
   | (with_reducible exact ih0 _ _ _ _)
   | (with_reducible exact LeO.refl _)
   | (with_reducible exact LeO.none _)
   | (with_reducible refine LeO.ite ?_ ?_)
   | (with_reducible refine LeO.bind ?_ (fun _ => ?_))
   | exact ih0 _ _ _ _
   | exact LeO.none _
   | refine LeO.ite ?_ ?_
   | refine LeO.bind ?_ (fun _ => ?_)
theorem slices_Equal_impl_Peg.mono : ∀ a0 a1 k, LeO (slices_Equal_impl_Peg.f k a0 a1) (slices_Equal_impl_Peg.f (k + 1) a0 a1) := by
 intro a0 a1 k
 have ih0 := slices_Equal_impl_Peg.mono_l k
 unfold slices_Equal_impl_Peg.f
 repeat' first | (with_reducible exact ih0 _ _ _ _) | (with_reducible exact LeO.refl _) | (with_reducible exact LeO.none _) | (with_reducible refine LeO.ite ?_ ?_) | (with_reducible refine LeO.bind ?_ (fun _ => ?_)) | exact ih0 _ _ _ _ | exact LeO.none _ | refine LeO.ite ?_ ?_ | refine LeO.bind ?_ (fun _ => ?_)
set_option maxHeartbeats 8000000 in
set_option maxRecDepth 100000 in
theorem slices_Equal_impl_Peg.calls (k : Nat) (A0 : Option Addr) (c0 : Nat) (l0 : List (S_impl_Peg)) (A1 : Option Addr) (c1 : Nat) (l1 : List (S_impl_Peg)) (r : Bool) (w : World) (hr0 : Kd.C kd_impl_Peg w A0 l0.length l0) (hc0 : l0.length ≤ c0) (hr1 : Kd.C kd_impl_Peg w A1 l1.length l1) (hc1 : l1.length ≤ c1) (h : slices_Equal_impl_Peg.f k l0 l1 = some r) :
  Calls Try.prog 18 #[.slice A0 l0.length c0, .slice A1 l1.length c1] w fun e w' => e = .returned (.bool r) ∧ Drawn0 w w' := by
 have hu38 := Try.underlying38; have HR0 := aM hr0; have HC0 := aM hc0; clear hr0 hc0; have HR1 := aM hr1; have HC1 := aM hc1; clear hr1 hc1
 unfold slices_Equal_impl_Peg.f at h; have H := h; clear h
 by_cases c3 : (l0.length : Int) = (l1.length : Int)
 ·rw [if_pos c3] at H; have c3b0 : ((l0.length : Int) == (l1.length : Int)) = true := beq_iff_eq.mpr c3; have c3b1 : ((l0.length : Int) != (l1.length : Int)) = false := bne_eq_false_iff_eq.mpr c3; have c3b2 : (l0.length == l1.length) = true := by first | simpa using c3 | (simp at c3 ⊢; omega)
  clear c3; have H' := aM H; clear H
  go_enter Try.func18, Try.ntmps18
  go_wp2
  repeat (go_quiet (fail); try go_wp2)
  go_loopg [13] k (fun kq v13 w' => ∃ (x13_1 : Int), v13 = .int .i64 x13_1 ∧ Aside0 (slices_Equal_impl_Peg.l0 kq l0 l1 (l0.length : Int) x13_1 = some r) ∧ Aside0 (kq ≤ k) ∧ Drawn0 w w')
  case atStart => exact ⟨(0), eQ, H', ⟨Nat.le_refl _⟩, dQ⟩
  case round =>
   clear H'; (try clear c1); (try clear c3); (try clear c3b0); (try clear c3b1); (try clear c3b2); obtain ⟨x13_1, rfl, HA, HK1, ⟨m1, rfl⟩⟩ := hrel
   cases gk with
   | zero => exact absurd HA.out (by simp [slices_Equal_impl_Peg.l0])
   | succ k1 =>
    have H := HA.out; clear HA
    simp only [slices_Equal_impl_Peg.l0] at H
    by_cases c4 : x13_1 < (l0.length : Int)
    ·rw [if_pos c4] at H; have c4b0 := dE c4; clear c4; replace H := iD H; obtain ⟨c5b0, H⟩ := H; replace H := iD H; obtain ⟨c6b0, H⟩ := H; replace H := iD H; obtain ⟨c7b0, H⟩ := H
     by_cases c8 : (!(((rd_impl_Peg l0 x13_1).f0) == ((rd_impl_Peg l1 x13_1).f0)) || (!(((rd_impl_Peg l0 x13_1).f1) == ((rd_impl_Peg l1 x13_1).f1)))) = true
     ·rw [if_pos c8] at H; have c8b0 := c8; clear c8; obtain rfl := Option.some.inj H; have p377 : 0 ≤ (x13_1 : Int) := dT aQ; have q377 : x13_1 < (l0.length : Int) := dT aQ; obtain ⟨ad377, e377, hx377_0, hx377_1⟩ := at_impl_Peg HR0.out x13_1 p377 q377
      cases e377
      replace p377 := eq_true p377; replace q377 := eq_true q377; have p378 : 0 ≤ (x13_1 : Int) := dT aQ; have q378 : x13_1 < (l1.length : Int) := dT aQ; obtain ⟨ad378, e378, hx378_0, hx378_1⟩ := at_impl_Peg HR1.out x13_1 p378 q378
      cases e378
      replace p378 := eq_true p378; replace q378 := eq_true q378; go_wp2
      repeat (go_quiet (fail); try go_wp2)
      go_ret
      exact ⟨eQ, dQ⟩
     ·rw [if_neg c8] at H; have c8b0 : (!(((rd_impl_Peg l0 x13_1).f0) == ((rd_impl_Peg l1 x13_1).f0)) || (!(((rd_impl_Peg l0 x13_1).f1) == ((rd_impl_Peg l1 x13_1).f1)))) = false := by simpa using c8
      clear c8; have H' := aM H; clear H; have p377 : 0 ≤ (x13_1 : Int) := dT aQ; have q377 : x13_1 < (l0.length : Int) := dT aQ; obtain ⟨ad377, e377, hx377_0, hx377_1⟩ := at_impl_Peg HR0.out x13_1 p377 q377
      cases e377
      replace p377 := eq_true p377; replace q377 := eq_true q377; have p378 : 0 ≤ (x13_1 : Int) := dT aQ; have q378 : x13_1 < (l1.length : Int) := dT aQ; obtain ⟨ad378, e378, hx378_0, hx378_1⟩ := at_impl_Peg HR1.out x13_1 p378 q378
      cases e378
      replace p378 := eq_true p378; replace q378 := eq_true q378; go_wp2
      repeat (go_quiet (fail); try go_wp2)
      go_roundg k1
      case measure => have := HK1.out; omega
      case rel => exact ⟨(wrap64 (x13_1 + 1)), eQ, H', ⟨by have := HK1.out; omega⟩, dQ⟩
    ·rw [if_neg c4] at H; have c4b0 := decide_eq_false c4; clear c4; obtain rfl := Option.some.inj H; go_wp2
     repeat (go_quiet (fail); try go_wp2)
     go_ret
     exact ⟨eQ, dQ⟩
 ·rw [if_neg c3] at H; have c3b0 : ((l0.length : Int) == (l1.length : Int)) = false := beq_eq_false_iff_ne.mpr c3; have c3b1 : ((l0.length : Int) != (l1.length : Int)) = true := bne_iff_ne.mpr c3; have c3b2 : (l0.length == l1.length) = false := by first | simpa using c3 | (simp at c3 ⊢; omega)
  obtain rfl := Option.some.inj H
  go_enter Try.func18, Try.ntmps18
  go_wp2
  repeat (go_quiet (fail); try go_wp2)
  go_ret
  exact ⟨eQ, dQ⟩

def impl_size.f (a0 : Int) : Option (Int) := some (mx a0 (wrap64 (-a0)))
set_option maxHeartbeats 8000000 in
set_option maxRecDepth 100000 in
theorem impl_size.calls (a0 : Int) (r : Int) (w : World) (h : impl_size.f a0 = some r) :
  Calls Try.prog 51 #[.int .i64 a0] w fun e w' => e = .returned (.int .i64 r) ∧ Below w.heap.size w w' := by
 have HB := aM (Below.refl w.heap.size w)
 unfold impl_size.f at h; have H := h; clear h
 obtain ⟨ji2, hji2⟩ : ∃ j_ : Int, (mx a0 (wrap64 (-a0))) = j_ := ⟨_, rfl⟩
 (first | rw [hji2] at H | simp only [hji2] at H)
 have hji2_ : (if a0 < (wrap64 (-a0)) then (wrap64 (-a0)) else a0) = ji2 := hji2; obtain rfl := Option.some.inj H
 go_enter Try.func51, Try.ntmps51
 go_wp2
 go_ret
 exact ⟨by first | rfl | (simp [errW_none, errW_some] <;> rfl) | (simp only [← hji2]; first | rfl | (simp [errW_none, errW_some] <;> rfl)) | (simp [*, errW_none, errW_some] <;> rfl), bQ⟩

def impl_isWay.f (a0 : Int) (a1 : Int) : Option (Bool) := (impl_size.f a0).bind fun t379 => (if t379 ≤ 80 then ((impl_size.f a1).bind fun t380 => (if t380 ≤ 80 then (if a0 > (-1000) then (some (decide (a1 > (-1000)))) else (some false)) else (some false))) else (some false))
set_option maxHeartbeats 8000000 in
set_option maxRecDepth 100000 in
theorem impl_isWay.calls (a0 : Int) (a1 : Int) (r : Bool) (w : World) (h : impl_isWay.f a0 a1 = some r) :
  Calls Try.prog 50 #[.int .i64 a0, .int .i64 a1] w fun e w' => e = .returned (.bool r) ∧ Below w.heap.size w w' := by
 have HB := aM (Below.refl w.heap.size w)
 unfold impl_isWay.f at h; have H := h; clear h
 replace H := bS H; obtain ⟨t379, A3, H⟩ := H
 by_cases c4 : t379 ≤ 80
 ·rw [if_pos c4] at H; have c4b0 := dE c4; clear c4; replace H := bS H; obtain ⟨t380, A5, H⟩ := H
  by_cases c6 : t380 ≤ 80
  ·rw [if_pos c6] at H; have c6b0 := dE c6; clear c6
   by_cases c7 : a0 > (-1000)
   ·rw [if_pos c7] at H; have c7b0 := dE c7; clear c7; obtain rfl := Option.some.inj H
    go_enter Try.func50, Try.ntmps50
    go_wp2_with (first | ((with_reducible refine gC (f := 51) rfl ?_); refine goesL_ (some 6) rfl rfl Try.func51 kR rfl #[.int .i64 a0] rfl sQ ?_; (with_reducible refine (impl_size.calls a0 t379 _ A3.out).mono ?_); rintro e w8 ⟨rfl, hb⟩; refine ⟨_, rfl, ?_⟩; replace HB := tB HB hb; (try clear hb); (try clear hb2); (try clear hk); (try clear hi)) | (go_at_call 51; (with_reducible refine (impl_size.calls a1 t380 _ A5.out).mono ?_); rintro e w9 ⟨rfl, hb⟩; replace HB := tB HB hb; (try clear hb); (try clear hb2); (try clear hk); (try clear hi)))
    go_ret
    exact ⟨wQ, bQ⟩
   ·rw [if_neg c7] at H; have c7b0 := decide_eq_false c7; clear c7; obtain rfl := Option.some.inj H
    go_enter Try.func50, Try.ntmps50
    go_wp2_with (first | ((with_reducible refine gC (f := 51) rfl ?_); refine goesL_ (some 6) rfl rfl Try.func51 kR rfl #[.int .i64 a0] rfl sQ ?_; (with_reducible refine (impl_size.calls a0 t379 _ A3.out).mono ?_); rintro e w10 ⟨rfl, hb⟩; refine ⟨_, rfl, ?_⟩; replace HB := tB HB hb; (try clear hb); (try clear hb2); (try clear hk); (try clear hi)) | (go_at_call 51; (with_reducible refine (impl_size.calls a1 t380 _ A5.out).mono ?_); rintro e w11 ⟨rfl, hb⟩; replace HB := tB HB hb; (try clear hb); (try clear hb2); (try clear hk); (try clear hi)))
    go_ret
    exact ⟨wQ, bQ⟩
  ·rw [if_neg c6] at H; have c6b0 := decide_eq_false c6; clear c6; obtain rfl := Option.some.inj H
   go_enter Try.func50, Try.ntmps50
   go_wp2_with (first | ((with_reducible refine gC (f := 51) rfl ?_); refine goesL_ (some 6) rfl rfl Try.func51 kR rfl #[.int .i64 a0] rfl sQ ?_; (with_reducible refine (impl_size.calls a0 t379 _ A3.out).mono ?_); rintro e w12 ⟨rfl, hb⟩; refine ⟨_, rfl, ?_⟩; replace HB := tB HB hb; (try clear hb); (try clear hb2); (try clear hk); (try clear hi)) | (go_at_call 51; (with_reducible refine (impl_size.calls a1 t380 _ A5.out).mono ?_); rintro e w13 ⟨rfl, hb⟩; replace HB := tB HB hb; (try clear hb); (try clear hb2); (try clear hk); (try clear hi)))
   go_ret
   exact ⟨wQ, bQ⟩
 ·rw [if_neg c4] at H; have c4b0 := decide_eq_false c4; clear c4; obtain rfl := Option.some.inj H
  go_enter Try.func50, Try.ntmps50
  go_wp2_with (first | ((with_reducible refine gC (f := 51) rfl ?_); refine goesL_ (some 6) rfl rfl Try.func51 kR rfl #[.int .i64 a0] rfl sQ ?_; (with_reducible refine (impl_size.calls a0 t379 _ A3.out).mono ?_); rintro e w14 ⟨rfl, hb⟩; refine ⟨_, rfl, ?_⟩; replace HB := tB HB hb; (try clear hb); (try clear hb2); (try clear hk); (try clear hi)))
  go_ret
  exact ⟨wQ, bQ⟩

def impl_Move_side.f (a0_0 : Int) (a0_1 : Int) (a0_2 : Int) (a0_3 : Int) (a0_4 : Int) (a0_5 : Int) : Option (Int) := some (wrap64 ((wrap64 (a0_0 * a0_3)) - (wrap64 (a0_1 * a0_2))))
set_option maxHeartbeats 8000000 in
set_option maxRecDepth 100000 in
theorem impl_Move_side.calls (a0_0 : Int) (a0_1 : Int) (a0_2 : Int) (a0_3 : Int) (a0_4 : Int) (a0_5 : Int) (r : Int) (w : World) (h : impl_Move_side.f a0_0 a0_1 a0_2 a0_3 a0_4 a0_5 = some r) :
  Calls Try.prog 52 #[.agg #[.int .i64 a0_0, .int .i64 a0_1, .int .i64 a0_2, .int .i64 a0_3, .int .i64 a0_4, .int .i64 a0_5]] w fun e w' => e = .returned (.int .i64 r) ∧ Below w.heap.size w w' := by
 have hu25 := Try.underlying25; have HB := aM (Below.refl w.heap.size w)
 unfold impl_Move_side.f at h; have H := h; clear h
 obtain rfl := Option.some.inj H
 go_enter Try.func52, Try.ntmps52
 go_wp2_with (first | ((with_reducible refine gate_dst (N := 1) rfl ?_); refine bV 1 (cs := #[.int .i64 a0_0, .int .i64 a0_1, .int .i64 a0_2, .int .i64 a0_3, .int .i64 a0_4, .int .i64 a0_5]) (t := 25) rfl rfl (by first | (go_simp; done) | (go_simp; rfl)) ?_; intro gb381 hg w2 hbox hb; have BK381 := hbox; have GW381 := gZ HB hg; have GE381 := gZ HB hg; replace HB := tB HB hb; clear hb hbox hg; have hcz3_0 := vZ0 BK381; have hcz3_1 := vZ1 BK381; have hcz3_2 := vZ2 BK381; have hcz3_3 := vZ3 BK381; have hcz3_4 := vZ4 BK381; have hcz3_5 := vZ5 BK381; have hfz3_0 := kF BK381.out 0; have hfz3_1 := kF BK381.out 1; have hfz3_2 := kF BK381.out 2; have hfz3_3 := kF BK381.out 3; have hfz3_4 := kF BK381.out 4; have hfz3_5 := kF BK381.out 5))
 go_ret
 exact ⟨wQ, bE⟩

def impl_IsMove.l0 : Nat → List Int → Int → Int → Int → Int → Int → Int → Int → Int → Option (Bool)
 | 0, _, _, _, _, _, _, _, _, _ => none
 | k + 1, x13, x14, x15, x383000, x383001, x383002, x383003, x383004, x383005 => if x15 < x14 then (if 0 ≤ x15 then (if x15 < (x13.length : Int) then ((impl_within.f (rd x13 x15) (-20) 20).bind fun t387 => (if t387 = true then (impl_IsMove.l0 k x13 x14 (wrap64 (x15 + 1)) x383000 x383001 x383002 x383003 x383004 x383005) else (some false))) else (none)) else (none)) else ((impl_isWay.f x383004 x383005).bind fun t388 => (if t388 = true then ((impl_Move_side.f x383000 x383001 x383002 x383003 x383004 x383005).bind fun t389 => ((impl_size.f t389).bind fun t390 => (some (t390 == 1)))) else (some false)))
def impl_IsMove.f (k : Nat) (a0_0 : Int) (a0_1 : Int) (a0_2 : Int) (a0_3 : Int) (a0_4 : Int) (a0_5 : Int) : Option (Bool) := (some (([a0_0, a0_1, a0_2, a0_3] : List Int) : List Int)).bind fun y383 => (impl_IsMove.l0 k y383 (y383.length : Int) 0 a0_0 a0_1 a0_2 a0_3 a0_4 a0_5)
theorem impl_IsMove.mono_l : ∀ k, (∀ y0 y1 y2 y3 y4 y5 y6 y7 y8, LeO (impl_IsMove.l0 k y0 y1 y2 y3 y4 y5 y6 y7 y8) (impl_IsMove.l0 (k + 1) y0 y1 y2 y3 y4 y5 y6 y7 y8))
 | 0 => fun _ _ _ _ _ _ _ _ _ r h => by simp [impl_IsMove.l0] at h
 | k + 1 => by
  have ih0 := impl_IsMove.mono_l k
  ·intro y0 y1 y2 y3 y4 y5 y6 y7 y8
   unfold impl_IsMove.l0
   repeat' first
   | (with_reducible exact ih0 _ _ _ _ _ _ _ _ _)
   | (with_reducible exact LeO.refl _)
   | (with_reducible exact LeO.none _)
   | (with_reducible refine LeO.ite ?_ ?_)
   | (with_reducible refine LeO.bind ?_ (fun _ => ?_))
   | exact ih0 _ _ _ _ _ _ _ _ _
   | exact LeO.none _
   | refine LeO.ite ?_ ?_
   | refine LeO.bind ?_ (fun _ => ?_)
theorem impl_IsMove.mono : ∀ a0 a1 a2 a3 a4 a5 k, LeO (impl_IsMove.f k a0 a1 a2 a3 a4 a5) (impl_IsMove.f (k + 1) a0 a1 a2 a3 a4 a5) := by
 intro a0 a1 a2 a3 a4 a5 k
 have ih0 := impl_IsMove.mono_l k
 unfold impl_IsMove.f
 repeat' first | (with_reducible exact ih0 _ _ _ _ _ _ _ _ _) | (with_reducible exact LeO.refl _) | (with_reducible exact LeO.none _) | (with_reducible refine LeO.ite ?_ ?_) | (with_reducible refine LeO.bind ?_ (fun _ => ?_)) | exact ih0 _ _ _ _ _ _ _ _ _ | exact LeO.none _ | refine LeO.ite ?_ ?_ | refine LeO.bind ?_ (fun _ => ?_)
set_option maxHeartbeats 8000000 in
set_option maxRecDepth 100000 in
theorem impl_IsMove.calls (k : Nat) (a0_0 : Int) (a0_1 : Int) (a0_2 : Int) (a0_3 : Int) (a0_4 : Int) (a0_5 : Int) (r : Bool) (w : World) (h : impl_IsMove.f k a0_0 a0_1 a0_2 a0_3 a0_4 a0_5 = some r) :
  Calls Try.prog 38 #[.agg #[.int .i64 a0_0, .int .i64 a0_1, .int .i64 a0_2, .int .i64 a0_3, .int .i64 a0_4, .int .i64 a0_5]] w fun e w' => e = .returned (.bool r) ∧ Below w.heap.size w w' := by
 have hu25 := Try.underlying25; have HB := aM (Below.refl w.heap.size w)
 unfold impl_IsMove.f at h; have H := h; clear h
 replace H := lS H; obtain ⟨y383, Ny383, H⟩ := H; have H' := aM H; clear H
 go_enter Try.func38, Try.ntmps38
 go_wp2_with (first | ((with_reducible refine gate_dst (N := 1) rfl ?_); refine bV 1 (cs := #[.int .i64 a0_0, .int .i64 a0_1, .int .i64 a0_2, .int .i64 a0_3, .int .i64 a0_4, .int .i64 a0_5]) (t := 25) rfl rfl (by first | (go_simp; done) | (go_simp; rfl)) ?_; intro gb382 hg w2 hbox hb; have BK382 := hbox; have GW382 := gZ HB hg; have GE382 := gZ HB hg; replace HB := tB HB hb; clear hb hbox hg; have hcz3_0 := vZ0 BK382; have hcz3_1 := vZ1 BK382; have hcz3_2 := vZ2 BK382; have hcz3_3 := vZ3 BK382; have hcz3_4 := vZ4 BK382; have hcz3_5 := vZ5 BK382; have hfz3_0 := kF BK382.out 0; have hfz3_1 := kF BK382.out 1; have hfz3_2 := kF BK382.out 2; have hfz3_3 := kF BK382.out 3; have hfz3_4 := kF BK382.out 4; have hfz3_5 := kF BK382.out 5) | ((with_reducible refine gate_dst (N := 13) rfl ?_); refine Kd.R_lit (Kd.int .i64) _ 3 ?hg (N := 13) ?hd (xs := ([a0_0, a0_1, a0_2, a0_3] : List Int)) (inner := [.int .i64 a0_0, .int .i64 a0_1, .int .i64 a0_2, .int .i64 a0_3]) (ok := fun _ => True) (okp := fun _ => True) ?hr ?hp (fun _ hk => hk) trivial (Below.refl _ _) (Nat.le_refl _) (by simp) ?_; (case hd => rfl); (case hg => rfl); (case hr => first | (go_simp; done) | (go_simp; rfl)); (case hp => exact (Reps.one (show Kd.M (Kd.int .i64) _ _ _ a0_0 [.int .i64 a0_0] from rfl) (Reps.one (show Kd.M (Kd.int .i64) _ _ _ a0_1 [.int .i64 a0_1] from rfl) (Reps.one (show Kd.M (Kd.int .i64) _ _ _ a0_2 [.int .i64 a0_2] from rfl) (Reps.one (show Kd.M (Kd.int .i64) _ _ _ a0_3 [.int .i64 a0_3] from rfl) (Reps.none _ _)))))); intro v384 w4 ho5 hb hg_ hnew_; clear hg_ hnew_; (first | rw [← Ny383.out] at ho5 | (simp only [Int.reduceToNat] at ho5; rw [← Ny383.out] at ho5)); have HO385 := aM (Kd.R_lower ho5 (pZ bE)); replace BK382 := bB BK382 hb; replace HB := tB HB hb; clear hb ho5; obtain ⟨Ao6, co6, eo6⟩ := Kd.R_slice HO385.out; subst eo6))
 go_loopg [15] k (fun kq v15 w' => ∃ (x15_1 : Int), v15 = .int .i64 x15_1 ∧ Aside0 (impl_IsMove.l0 kq y383 (y383.length : Int) x15_1 a0_0 a0_1 a0_2 a0_3 a0_4 a0_5 = some r) ∧ Aside0 (kq ≤ k) ∧ Aside0 (Kd.R (Kd.int .i64) 3 w' w.heap.size (fun _ => True) (.slice Ao6 y383.length co6) y383) ∧ Aside0 (w'.heap[gb382]? = some (.cells #[.int .i64 a0_0, .int .i64 a0_1, .int .i64 a0_2, .int .i64 a0_3, .int .i64 a0_4, .int .i64 a0_5] 25 (0, 0))) ∧ Aside0 (Below w.heap.size w w'))
 case atStart => exact ⟨(0), eQ, H', ⟨Nat.le_refl _⟩, ⟨by (with_reducible repeat (first | apply rA | apply rN | apply rD)); exact HO385.out⟩, ⟨gQ BK382⟩, ⟨bE⟩⟩
 case round =>
  clear H'; (try clear hcz3_0); (try clear hcz3_1); (try clear hcz3_2); (try clear hcz3_3); (try clear hcz3_4); (try clear hcz3_5); (try clear hfz3_0); (try clear hfz3_1); (try clear hfz3_2); (try clear hfz3_3); (try clear hfz3_4); (try clear hfz3_5); obtain ⟨x15_1, rfl, HA, HK1, HO_13, BK382, HB⟩ := hrel
  cases gk with
  | zero => exact absurd HA.out (by simp [impl_IsMove.l0])
  | succ k1 =>
   have H := HA.out; clear HA
   simp only [impl_IsMove.l0] at H
   by_cases c7 : x15_1 < (y383.length : Int)
   ·rw [if_pos c7] at H; have c7b0 := dE c7; clear c7; replace H := iD H; obtain ⟨c8b0, H⟩ := H; replace H := iD H; obtain ⟨c9b0, H⟩ := H; replace H := bS H; obtain ⟨t387, A10, H⟩ := H
    by_cases c11 : t387 = true
    ·subst c11; replace H := iT H; have H' := aM H; clear H; have p386 : 0 ≤ (x15_1 : Int) := dT aQ; have q386 : x15_1 < (y383.length : Int) := dT aQ; obtain ⟨ad386, e386, hx386_0⟩ := Kd.at_int (rR HO_13.out).2.2 x15_1 p386 q386
     cases e386
     replace p386 := eq_true p386; replace q386 := eq_true q386
     go_wp2_with (first | ((with_reducible refine gC (f := 29) rfl ?_); refine goesL_ (some 20) rfl rfl Try.func29 kR rfl #[.int .i64 (rd y383 x15_1), .int .i64 (-20), .int .i64 20] rfl sQ ?_; (with_reducible refine (impl_within.calls (rd y383 x15_1) (-20) 20 true _ A10.out).mono ?_); rintro e w' ⟨rfl, ⟨nd, rfl⟩⟩; refine ⟨_, rfl, ?_⟩))
     go_roundg k1
     case measure => have := HK1.out; omega
     case rel => exact ⟨(wrap64 (x15_1 + 1)), eQ, H', ⟨by have := HK1.out; omega⟩, ⟨by (with_reducible repeat (first | apply rA | apply rN | apply rD)); exact HO_13.out⟩, ⟨gQ BK382⟩, ⟨bE⟩⟩
    ·replace c11 := Bool.eq_false_iff.mpr c11; subst c11; replace H := iF H; obtain rfl := Option.some.inj H; have p386 : 0 ≤ (x15_1 : Int) := dT aQ; have q386 : x15_1 < (y383.length : Int) := dT aQ; obtain ⟨ad386, e386, hx386_0⟩ := Kd.at_int (rR HO_13.out).2.2 x15_1 p386 q386
     cases e386
     replace p386 := eq_true p386; replace q386 := eq_true q386
     go_wp2_with (first | ((with_reducible refine gC (f := 29) rfl ?_); refine goesL_ (some 20) rfl rfl Try.func29 kR rfl #[.int .i64 (rd y383 x15_1), .int .i64 (-20), .int .i64 20] rfl sQ ?_; (with_reducible refine (impl_within.calls (rd y383 x15_1) (-20) 20 false _ A10.out).mono ?_); rintro e w' ⟨rfl, ⟨nd, rfl⟩⟩; refine ⟨_, rfl, ?_⟩))
     go_ret
     exact ⟨wQ, bE⟩
   ·rw [if_neg c7] at H; have c7b0 := decide_eq_false c7; clear c7; replace H := bS H; obtain ⟨t388, A12, H⟩ := H
    by_cases c13 : t388 = true
    ·subst c13; replace H := iT H; replace H := bS H; obtain ⟨t389, A14, H⟩ := H; replace H := bS H; obtain ⟨t390, A15, H⟩ := H; obtain rfl := Option.some.inj H; have hcz16_0 : wr.cell? ⟨gb382, 0, none⟩ = some (.int .i64 a0_0) := vZ0 BK382; have hcz16_1 : wr.cell? ⟨gb382, 1, none⟩ = some (.int .i64 a0_1) := vZ1 BK382; have hcz16_2 : wr.cell? ⟨gb382, 2, none⟩ = some (.int .i64 a0_2) := vZ2 BK382; have hcz16_3 : wr.cell? ⟨gb382, 3, none⟩ = some (.int .i64 a0_3) := vZ3 BK382; have hcz16_4 : wr.cell? ⟨gb382, 4, none⟩ = some (.int .i64 a0_4) := vZ4 BK382; have hcz16_5 : wr.cell? ⟨gb382, 5, none⟩ = some (.int .i64 a0_5) := vZ5 BK382; have hfz16_0 := kF BK382.out 0; have hfz16_1 := kF BK382.out 1; have hfz16_2 := kF BK382.out 2; have hfz16_3 := kF BK382.out 3; have hfz16_4 := kF BK382.out 4; have hfz16_5 := kF BK382.out 5
     go_wp2_with (first | ((with_reducible refine gC (f := 50) rfl ?_); refine goesL_ (some 27) rfl rfl Try.func50 kR rfl #[.int .i64 a0_4, .int .i64 a0_5] rfl sQ ?_; (with_reducible refine (impl_isWay.calls a0_4 a0_5 true _ A12.out).mono ?_); rintro e w17 ⟨rfl, hb⟩; refine ⟨_, rfl, ?_⟩; replace HO_13 := aM (Kd.R_below (by (with_reducible repeat (first | apply rA | apply rN | apply rD)); exact HO_13.out) hb); replace BK382 := bB BK382 hb; replace HB := tB HB hb; (try clear hb); (try clear hb2); (try clear hk); (try clear hi); have hcz18_0 := vZ0 BK382; have hcz18_1 := vZ1 BK382; have hcz18_2 := vZ2 BK382; have hcz18_3 := vZ3 BK382; have hcz18_4 := vZ4 BK382; have hcz18_5 := vZ5 BK382; have hfz18_0 := kF BK382.out 0; have hfz18_1 := kF BK382.out 1; have hfz18_2 := kF BK382.out 2; have hfz18_3 := kF BK382.out 3; have hfz18_4 := kF BK382.out 4; have hfz18_5 := kF BK382.out 5) | (go_at_call 52; (with_reducible refine (impl_Move_side.calls a0_0 a0_1 a0_2 a0_3 a0_4 a0_5 t389 _ A14.out).mono ?_); rintro e w19 ⟨rfl, hb⟩; replace HO_13 := aM (Kd.R_below (by (with_reducible repeat (first | apply rA | apply rN | apply rD)); exact HO_13.out) hb); replace BK382 := bB BK382 hb; replace HB := tB HB hb; (try clear hb); (try clear hb2); (try clear hk); (try clear hi)) | (go_at_call 51; (with_reducible refine (impl_size.calls t389 t390 _ A15.out).mono ?_); rintro e w20 ⟨rfl, hb⟩; replace HO_13 := aM (Kd.R_below (by (with_reducible repeat (first | apply rA | apply rN | apply rD)); exact HO_13.out) hb); replace BK382 := bB BK382 hb; replace HB := tB HB hb; (try clear hb); (try clear hb2); (try clear hk); (try clear hi)))
     go_ret
     exact ⟨wQ, bE⟩
    ·replace c13 := Bool.eq_false_iff.mpr c13; subst c13; replace H := iF H; obtain rfl := Option.some.inj H; have hcz21_0 : wr.cell? ⟨gb382, 0, none⟩ = some (.int .i64 a0_0) := vZ0 BK382; have hcz21_1 : wr.cell? ⟨gb382, 1, none⟩ = some (.int .i64 a0_1) := vZ1 BK382; have hcz21_2 : wr.cell? ⟨gb382, 2, none⟩ = some (.int .i64 a0_2) := vZ2 BK382; have hcz21_3 : wr.cell? ⟨gb382, 3, none⟩ = some (.int .i64 a0_3) := vZ3 BK382; have hcz21_4 : wr.cell? ⟨gb382, 4, none⟩ = some (.int .i64 a0_4) := vZ4 BK382; have hcz21_5 : wr.cell? ⟨gb382, 5, none⟩ = some (.int .i64 a0_5) := vZ5 BK382; have hfz21_0 := kF BK382.out 0; have hfz21_1 := kF BK382.out 1; have hfz21_2 := kF BK382.out 2; have hfz21_3 := kF BK382.out 3; have hfz21_4 := kF BK382.out 4; have hfz21_5 := kF BK382.out 5
     go_wp2_with (first | ((with_reducible refine gC (f := 50) rfl ?_); refine goesL_ (some 27) rfl rfl Try.func50 kR rfl #[.int .i64 a0_4, .int .i64 a0_5] rfl sQ ?_; (with_reducible refine (impl_isWay.calls a0_4 a0_5 false _ A12.out).mono ?_); rintro e w22 ⟨rfl, hb⟩; refine ⟨_, rfl, ?_⟩; replace HO_13 := aM (Kd.R_below (by (with_reducible repeat (first | apply rA | apply rN | apply rD)); exact HO_13.out) hb); replace BK382 := bB BK382 hb; replace HB := tB HB hb; (try clear hb); (try clear hb2); (try clear hk); (try clear hi)))
     go_ret
     exact ⟨wQ, bE⟩

def impl_checkedMove.f (k : Nat) (a0_0 : Int) (a0_1 : Int) (a0_2 : Int) (a0_3 : Int) (a0_4 : Int) (a0_5 : Int) : Option (Int × Int × Int × Int × Int × Int × Bool) := (impl_IsMove.f k a0_0 a0_1 a0_2 a0_3 a0_4 a0_5).bind fun t393 => (if t393 = true then (some (a0_0, a0_1, a0_2, a0_3, a0_4, a0_5, true)) else (some (0, 0, 0, 0, 0, 0, false)))
theorem impl_checkedMove.mono : ∀ a0 a1 a2 a3 a4 a5 k, LeO (impl_checkedMove.f k a0 a1 a2 a3 a4 a5) (impl_checkedMove.f (k + 1) a0 a1 a2 a3 a4 a5) := by
 intro a0 a1 a2 a3 a4 a5 k
 unfold impl_checkedMove.f
 repeat' first | (with_reducible exact impl_IsMove.mono _ _ _ _ _ _ _) | (with_reducible exact LeO.refl _) | (with_reducible exact LeO.none _) | (with_reducible refine LeO.ite ?_ ?_) | (with_reducible refine LeO.bind ?_ (fun _ => ?_)) | exact impl_IsMove.mono _ _ _ _ _ _ _ | exact LeO.none _ | refine LeO.ite ?_ ?_ | refine LeO.bind ?_ (fun _ => ?_)
set_option maxHeartbeats 8000000 in
set_option maxRecDepth 100000 in
theorem impl_checkedMove.calls (k : Nat) (a0_0 : Int) (a0_1 : Int) (a0_2 : Int) (a0_3 : Int) (a0_4 : Int) (a0_5 : Int) (r1 : Int) (r2 : Int) (r3 : Int) (r4 : Int) (r5 : Int) (r6 : Int) (r7 : Bool) (w : World) (h : impl_checkedMove.f k a0_0 a0_1 a0_2 a0_3 a0_4 a0_5 = some (r1, r2, r3, r4, r5, r6, r7)) :
  Calls Try.prog 19 #[.agg #[.int .i64 a0_0, .int .i64 a0_1, .int .i64 a0_2, .int .i64 a0_3, .int .i64 a0_4, .int .i64 a0_5]] w fun e w' => e = .returned (.tuple #[.agg #[.int .i64 r1, .int .i64 r2, .int .i64 r3, .int .i64 r4, .int .i64 r5, .int .i64 r6], .bool r7]) ∧ Below w.heap.size w w' := by
 have hu25 := Try.underlying25; have HB := aM (Below.refl w.heap.size w)
 unfold impl_checkedMove.f at h; have H := h; clear h
 replace H := bS H; obtain ⟨t393, A2, H⟩ := H
 by_cases c3 : t393 = true
 ·subst c3; replace H := iT H
  simp only [Option.some.injEq, Prod.mk.injEq] at H
  obtain ⟨rfl, rfl, rfl, rfl, rfl, rfl, rfl⟩ := H
  go_enter Try.func19, Try.ntmps19
  go_wp2_with (first | ((with_reducible refine gate_dst (N := 1) rfl ?_); refine bV 1 (cs := #[.int .i64 a0_0, .int .i64 a0_1, .int .i64 a0_2, .int .i64 a0_3, .int .i64 a0_4, .int .i64 a0_5]) (t := 25) rfl rfl (by first | (go_simp; done) | (go_simp; rfl)) ?_; intro gb391 hg w4 hbox hb; have BK391 := hbox; have GW391 := gZ HB hg; have GE391 := gZ HB hg; replace HB := tB HB hb; clear hb hbox hg) | ((with_reducible refine gate_dst (N := 2) rfl ?_); refine bV 2 (cs := #[.int .i64 0, .int .i64 0, .int .i64 0, .int .i64 0, .int .i64 0, .int .i64 0]) (t := 25) rfl rfl (by first | (go_simp; done) | (go_simp; rfl)) ?_; intro gb392 hg w5 hbox hb; have BK392 := hbox; have GW392 := gZ HB hg; have GE392 := gZ HB hg; have NB391_392 := nG BK391 hg; have NB392_391 := nH BK391 hg; replace BK391 := bB BK391 hb; replace HB := tB HB hb; clear hb hbox hg; have hnb6 := NB391_392.out; have hnc6 := NB392_391.out; have hcz7_0 := vZ0 BK391; have hcz7_1 := vZ1 BK391; have hcz7_2 := vZ2 BK391; have hcz7_3 := vZ3 BK391; have hcz7_4 := vZ4 BK391; have hcz7_5 := vZ5 BK391; have hfz7_0 := kF BK391.out 0; have hfz7_1 := kF BK391.out 1; have hfz7_2 := kF BK391.out 2; have hfz7_3 := kF BK391.out 3; have hfz7_4 := kF BK391.out 4; have hfz7_5 := kF BK391.out 5) | ((with_reducible refine gC (f := 38) rfl ?_); refine goesL_ (some 5) rfl rfl Try.func38 kR rfl #[.agg #[.int .i64 a0_0, .int .i64 a0_1, .int .i64 a0_2, .int .i64 a0_3, .int .i64 a0_4, .int .i64 a0_5]] rfl sQ ?_; (with_reducible refine (impl_IsMove.calls k a0_0 a0_1 a0_2 a0_3 a0_4 a0_5 true _ A2.out).mono ?_); rintro e w8 ⟨rfl, hb⟩; refine ⟨_, rfl, ?_⟩; replace BK391 := bB BK391 hb; replace BK392 := bB BK392 hb; replace HB := tB HB hb; (try clear hb); (try clear hb2); (try clear hk); (try clear hi); have hcz9_0 := vZ0 BK391; have hcz9_1 := vZ1 BK391; have hcz9_2 := vZ2 BK391; have hcz9_3 := vZ3 BK391; have hcz9_4 := vZ4 BK391; have hcz9_5 := vZ5 BK391; have hfz9_0 := kF BK391.out 0; have hfz9_1 := kF BK391.out 1; have hfz9_2 := kF BK391.out 2; have hfz9_3 := kF BK391.out 3; have hfz9_4 := kF BK391.out 4; have hfz9_5 := kF BK391.out 5; have hcz10_0 := vZ0 BK392; have hcz10_1 := vZ1 BK392; have hcz10_2 := vZ2 BK392; have hcz10_3 := vZ3 BK392; have hcz10_4 := vZ4 BK392; have hcz10_5 := vZ5 BK392; have hfz10_0 := kF BK392.out 0; have hfz10_1 := kF BK392.out 1; have hfz10_2 := kF BK392.out 2; have hfz10_3 := kF BK392.out 3; have hfz10_4 := kF BK392.out 4; have hfz10_5 := kF BK392.out 5))
  refine bodyPost_ret (results_ct rfl _ _ gb392 25 #[.int .i64 a0_0, .int .i64 a0_1, .int .i64 a0_2, .int .i64 a0_3, .int .i64 a0_4, .int .i64 a0_5] (0, 0) _ rfl (fQ BK392) Try.underlying25 rfl kR) rfl ?_
  exact ⟨wQ, bE⟩
 ·replace c3 := Bool.eq_false_iff.mpr c3; subst c3; replace H := iF H
  simp only [Option.some.injEq, Prod.mk.injEq] at H
  obtain ⟨rfl, rfl, rfl, rfl, rfl, rfl, rfl⟩ := H
  go_enter Try.func19, Try.ntmps19
  go_wp2_with (first | ((with_reducible refine gate_dst (N := 1) rfl ?_); refine bV 1 (cs := #[.int .i64 a0_0, .int .i64 a0_1, .int .i64 a0_2, .int .i64 a0_3, .int .i64 a0_4, .int .i64 a0_5]) (t := 25) rfl rfl (by first | (go_simp; done) | (go_simp; rfl)) ?_; intro gb391 hg w11 hbox hb; have BK391 := hbox; have GW391 := gZ HB hg; have GE391 := gZ HB hg; replace HB := tB HB hb; clear hb hbox hg) | ((with_reducible refine gate_dst (N := 2) rfl ?_); refine bV 2 (cs := #[.int .i64 0, .int .i64 0, .int .i64 0, .int .i64 0, .int .i64 0, .int .i64 0]) (t := 25) rfl rfl (by first | (go_simp; done) | (go_simp; rfl)) ?_; intro gb392 hg w12 hbox hb; have BK392 := hbox; have GW392 := gZ HB hg; have GE392 := gZ HB hg; have NB391_392 := nG BK391 hg; have NB392_391 := nH BK391 hg; replace BK391 := bB BK391 hb; replace HB := tB HB hb; clear hb hbox hg; have hnb13 := NB391_392.out; have hnc13 := NB392_391.out; have hcz14_0 := vZ0 BK391; have hcz14_1 := vZ1 BK391; have hcz14_2 := vZ2 BK391; have hcz14_3 := vZ3 BK391; have hcz14_4 := vZ4 BK391; have hcz14_5 := vZ5 BK391; have hfz14_0 := kF BK391.out 0; have hfz14_1 := kF BK391.out 1; have hfz14_2 := kF BK391.out 2; have hfz14_3 := kF BK391.out 3; have hfz14_4 := kF BK391.out 4; have hfz14_5 := kF BK391.out 5) | ((with_reducible refine gC (f := 38) rfl ?_); refine goesL_ (some 5) rfl rfl Try.func38 kR rfl #[.agg #[.int .i64 a0_0, .int .i64 a0_1, .int .i64 a0_2, .int .i64 a0_3, .int .i64 a0_4, .int .i64 a0_5]] rfl sQ ?_; (with_reducible refine (impl_IsMove.calls k a0_0 a0_1 a0_2 a0_3 a0_4 a0_5 false _ A2.out).mono ?_); rintro e w15 ⟨rfl, hb⟩; refine ⟨_, rfl, ?_⟩; replace BK391 := bB BK391 hb; replace BK392 := bB BK392 hb; replace HB := tB HB hb; (try clear hb); (try clear hb2); (try clear hk); (try clear hi); have hcz16_0 := vZ0 BK392; have hcz16_1 := vZ1 BK392; have hcz16_2 := vZ2 BK392; have hcz16_3 := vZ3 BK392; have hcz16_4 := vZ4 BK392; have hcz16_5 := vZ5 BK392; have hfz16_0 := kF BK392.out 0; have hfz16_1 := kF BK392.out 1; have hfz16_2 := kF BK392.out 2; have hfz16_3 := kF BK392.out 3; have hfz16_4 := kF BK392.out 4; have hfz16_5 := kF BK392.out 5))
  refine bodyPost_ret (results_ct rfl _ _ gb392 25 #[.int .i64 0, .int .i64 0, .int .i64 0, .int .i64 0, .int .i64 0, .int .i64 0] (0, 0) _ rfl (fQ BK392) Try.underlying25 rfl kR) rfl ?_
  exact ⟨wQ, bE⟩

end Go.Proofs.Ytphkphjddkjabaa.X
