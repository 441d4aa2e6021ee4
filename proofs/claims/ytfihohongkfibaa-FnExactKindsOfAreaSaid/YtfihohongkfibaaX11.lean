-- thin
-- short
-- compact
import Derived.Test.YtfihohongkfibaaXA
import Derived.Test.YtfihohongkfibaaX0
import Derived.Test.YtfihohongkfibaaX1
import Derived.Test.YtfihohongkfibaaX10
namespace Go.Proofs.Ytfihohongkfibaa.X
open Go.RowKit Go.Proofs.Ytfihohongkfibaa.XW Go.Proofs.YtfihohongkfibaaW.PrintWords Go.Proofs.YtfihohongkfibaaW.PrintLast Go.Proofs.YtfihohongkfibaaW.PrintMore
attribute [local go_sem] max2_int min2_int max_two min_two max_three min_three max_four min_four   -- for this text's walks alone
set_option linter.unusedVariables false
set_option linter.unusedSimpArgs false

attribute [local go_sem high] eqA50
def slices_Index_impl_Peg.l0 : Nat → List (S_impl_Peg) → Int → Int → Int → Int → Option (Int)
 | 0, _, _, _, _, _ => none
 | k + 1, x0, x7, x8, x273000, x273001 => if x8 < x7 then (if 0 ≤ x8 then (if x8 < (x0.length : Int) then (if (x273000 == ((rd_impl_Peg x0 x8).f0) && (x273001 == ((rd_impl_Peg x0 x8).f1))) = true then (some x8) else (slices_Index_impl_Peg.l0 k x0 x7 (wrap64 (x8 + 1)) x273000 x273001)) else (none)) else (none)) else (some (-1))
def slices_Index_impl_Peg.f (k : Nat) (l0 : List (S_impl_Peg)) (a1_0 : Int) (a1_1 : Int) : Option (Int) := slices_Index_impl_Peg.l0 k l0 (l0.length : Int) 0 a1_0 a1_1
theorem slices_Index_impl_Peg.mono_l : ∀ k, (∀ y0 y1 y2 y3 y4, LeO (slices_Index_impl_Peg.l0 k y0 y1 y2 y3 y4) (slices_Index_impl_Peg.l0 (k + 1) y0 y1 y2 y3 y4))
 | 0 => fun _ _ _ _ _ r h => by simp [slices_Index_impl_Peg.l0] at h
 | k + 1 => by
  have ih0 := slices_Index_impl_Peg.mono_l k
  ·intro y0 y1 y2 y3 y4
   unfold slices_Index_impl_Peg.l0
   repeat' first
   | (with_reducible exact ih0 _ _ _ _ _)
   | (with_reducible exact LeO.refl _)
   | (with_reducible exact LeO.none _)
   | (with_reducible refine LeO.ite ?_ ?_)
   | (with_reducible refine LeO.bind ?_ (fun _ => ?_))
   | exact ih0 _ _ _ _ _
   | exact LeO.none _
   | refine LeO.ite ?_ ?_
   | refine LeO.bind ?_ (fun _ => ?_)
theorem slices_Index_impl_Peg.mono : ∀ a0 a1 a2 k, LeO (slices_Index_impl_Peg.f k a0 a1 a2) (slices_Index_impl_Peg.f (k + 1) a0 a1 a2) := by
 intro a0 a1 a2 k
 have ih0 := slices_Index_impl_Peg.mono_l k
 unfold slices_Index_impl_Peg.f
 repeat' first | (with_reducible exact ih0 _ _ _ _ _) | (with_reducible exact LeO.refl _) | (with_reducible exact LeO.none _) | (with_reducible refine LeO.ite ?_ ?_) | (with_reducible refine LeO.bind ?_ (fun _ => ?_)) | exact ih0 _ _ _ _ _ | exact LeO.none _ | refine LeO.ite ?_ ?_ | refine LeO.bind ?_ (fun _ => ?_)
set_option maxHeartbeats 8000000 in
set_option maxRecDepth 100000 in
theorem slices_Index_impl_Peg.calls (k : Nat) (A0 : Option Addr) (c0 : Nat) (l0 : List (S_impl_Peg)) (a1_0 : Int) (a1_1 : Int) (r : Int) (w : World) (hr0 : Kd.C kd_impl_Peg w A0 l0.length l0) (hc0 : l0.length ≤ c0) (h : slices_Index_impl_Peg.f k l0 a1_0 a1_1 = some r) :
  Calls Try.prog 142 #[.slice A0 l0.length c0, .agg #[.int .i64 a1_0, .int .i64 a1_1]] w fun e w' => e = .returned (.int .i64 r) ∧ Below w.heap.size w w' := by
 have hu50 := Try.underlying50; have HR0 := aM hr0; have HC0 := aM hc0; clear hr0 hc0; have HB := aM (Below.refl w.heap.size w)
 unfold slices_Index_impl_Peg.f at h; have H := h; clear h
 have H' := aM H; clear H
 go_enter Try.func142, Try.ntmps142
 go_wp2_with (first | ((with_reducible refine gate_dst (N := 3) rfl ?_); refine bV 3 (cs := #[.int .i64 a1_0, .int .i64 a1_1]) (t := 50) rfl rfl (by first | (go_simp; done) | (go_simp; rfl)) ?_; intro gb272 hg w3 hbox hb; have BK272 := hbox; have GW272 := gZ HB hg; have GE272 := gZ HB hg; replace HB := tB HB hb; clear hb hbox hg))
 repeat (go_quiet (first | ((with_reducible refine gate_dst (N := 3) rfl ?_); refine bV 3 (cs := #[.int .i64 a1_0, .int .i64 a1_1]) (t := 50) rfl rfl (by first | (go_simp; done) | (go_simp; rfl)) ?_; intro gb272 hg w3 hbox hb; have n0_ := tB HB hb; have n1_ := hbox; have n2_ := gZ HB hg; have n3_ := gZ HB hg; clear HB; have HB := n0_; have BK272 := n1_; have GW272 := n2_; have GE272 := n3_; clear n0_ n1_ n2_ n3_; clear hb hbox hg)); try go_wp2_with (first | ((with_reducible refine gate_dst (N := 3) rfl ?_); refine bV 3 (cs := #[.int .i64 a1_0, .int .i64 a1_1]) (t := 50) rfl rfl (by first | (go_simp; done) | (go_simp; rfl)) ?_; intro gb272 hg w3 hbox hb; have n0_ := tB HB hb; have n1_ := hbox; have n2_ := gZ HB hg; have n3_ := gZ HB hg; clear HB; have HB := n0_; have BK272 := n1_; have GW272 := n2_; have GE272 := n3_; clear n0_ n1_ n2_ n3_; clear hb hbox hg)))
 go_loopg [8] k (fun kq v8 w' => ∃ (x8_1 : Int), v8 = .int .i64 x8_1 ∧ Aside0 (slices_Index_impl_Peg.l0 kq l0 (l0.length : Int) x8_1 a1_0 a1_1 = some r) ∧ Aside0 (kq ≤ k) ∧ Aside0 (w'.heap[gb272]? = some (.cells #[.int .i64 a1_0, .int .i64 a1_1] 50 (0, 0))) ∧ Aside0 (Below w.heap.size w w'))
 case atStart => exact ⟨(0), eQ, H', ⟨Nat.le_refl _⟩, ⟨gQ BK272⟩, ⟨bE⟩⟩
 case round =>
  clear H'; obtain ⟨x8_1, rfl, HA, HK1, BK272, HB⟩ := hrel
  cases gk with
  | zero => exact absurd HA.out (by simp [slices_Index_impl_Peg.l0])
  | succ k1 =>
   have H := HA.out; clear HA
   simp only [slices_Index_impl_Peg.l0] at H
   by_cases c4 : x8_1 < (l0.length : Int)
   ·rw [if_pos c4] at H; have c4b0 := dE c4; clear c4; replace H := iD H; obtain ⟨c5b0, H⟩ := H; replace H := iD H; obtain ⟨c6b0, H⟩ := H
    by_cases c7 : (a1_0 == ((rd_impl_Peg l0 x8_1).f0) && (a1_1 == ((rd_impl_Peg l0 x8_1).f1))) = true
    ·rw [if_pos c7] at H; have c7b0 := c7
     (try (have c7b1 : decide (a1_0 = ((rd_impl_Peg l0 x8_1).f0) && (a1_1 == ((rd_impl_Peg l0 x8_1).f1))) = true := by simpa using c7))
     (try (have c7b2 : (a1_0 == ((rd_impl_Peg l0 x8_1).f0) && (a1_1 == ((rd_impl_Peg l0 x8_1).f1))) = true := by simpa using c7))
     clear c7; obtain rfl := Option.some.inj H; have hcz8_0 : wr.cell? ⟨gb272, 0, none⟩ = some (.int .i64 a1_0) := vZ0 BK272; have hcz8_1 : wr.cell? ⟨gb272, 1, none⟩ = some (.int .i64 a1_1) := vZ1 BK272; have hfz8_0 := kF BK272.out 0; have hfz8_1 := kF BK272.out 1; have p273 : 0 ≤ (x8_1 : Int) := dT aQ; have q273 : x8_1 < (l0.length : Int) := dT aQ; obtain ⟨ad273, e273, hx273_0, hx273_1⟩ := at_impl_Peg HR0.out x8_1 p273 q273
     cases e273
     replace hx273_0 := hC HB hx273_0; replace hx273_1 := hC HB hx273_1; replace p273 := eq_true p273; replace q273 := eq_true q273; go_wp2
     repeat (go_quiet (fail); try go_wp2)
     go_ret
     exact ⟨wQ, bE⟩
    ·rw [if_neg c7] at H; have c7b0 : (a1_0 == ((rd_impl_Peg l0 x8_1).f0) && (a1_1 == ((rd_impl_Peg l0 x8_1).f1))) = false := by simpa using c7
     (try (have c7b1 : decide (a1_0 = ((rd_impl_Peg l0 x8_1).f0) && (a1_1 == ((rd_impl_Peg l0 x8_1).f1))) = false := by simpa using c7))
     (try (have c7b2 : (a1_0 == ((rd_impl_Peg l0 x8_1).f0) && (a1_1 == ((rd_impl_Peg l0 x8_1).f1))) = false := by simpa using c7))
     (try (have c7b3 : ¬ (a1_0 = ((rd_impl_Peg l0 x8_1).f0) && (a1_1 == ((rd_impl_Peg l0 x8_1).f1))) := by simpa using c7))
     clear c7; have H' := aM H; clear H; have hcz9_0 : wr.cell? ⟨gb272, 0, none⟩ = some (.int .i64 a1_0) := vZ0 BK272; have hcz9_1 : wr.cell? ⟨gb272, 1, none⟩ = some (.int .i64 a1_1) := vZ1 BK272; have hfz9_0 := kF BK272.out 0; have hfz9_1 := kF BK272.out 1; have p273 : 0 ≤ (x8_1 : Int) := dT aQ; have q273 : x8_1 < (l0.length : Int) := dT aQ; obtain ⟨ad273, e273, hx273_0, hx273_1⟩ := at_impl_Peg HR0.out x8_1 p273 q273
     cases e273
     replace hx273_0 := hC HB hx273_0; replace hx273_1 := hC HB hx273_1; replace p273 := eq_true p273; replace q273 := eq_true q273; go_wp2
     repeat (go_quiet (fail); try go_wp2)
     go_roundg k1
     case measure => have := HK1.out; omega
     case rel => exact ⟨(wrap64 (x8_1 + 1)), eQ, H', ⟨by have := HK1.out; omega⟩, ⟨gQ BK272⟩, ⟨bE⟩⟩
   ·rw [if_neg c4] at H; have c4b0 := decide_eq_false c4; clear c4; obtain rfl := Option.some.inj H; go_wp2
    repeat (go_quiet (fail); try go_wp2)
    go_ret
    exact ⟨wQ, bE⟩

def slices_Contains_impl_Peg.f (k : Nat) (l0 : List (S_impl_Peg)) (a1_0 : Int) (a1_1 : Int) : Option (Bool) := (slices_Index_impl_Peg.f k l0 a1_0 a1_1).bind fun t275 => (some (decide (t275 ≥ 0)))
theorem slices_Contains_impl_Peg.mono : ∀ a0 a1 a2 k, LeO (slices_Contains_impl_Peg.f k a0 a1 a2) (slices_Contains_impl_Peg.f (k + 1) a0 a1 a2) := by
 intro a0 a1 a2 k
 unfold slices_Contains_impl_Peg.f
 repeat' first | (with_reducible exact slices_Index_impl_Peg.mono _ _ _ _) | (with_reducible exact LeO.refl _) | (with_reducible exact LeO.none _) | (with_reducible refine LeO.ite ?_ ?_) | (with_reducible refine LeO.bind ?_ (fun _ => ?_)) | exact slices_Index_impl_Peg.mono _ _ _ _ | exact LeO.none _ | refine LeO.ite ?_ ?_ | refine LeO.bind ?_ (fun _ => ?_)
set_option maxHeartbeats 8000000 in
set_option maxRecDepth 100000 in
theorem slices_Contains_impl_Peg.calls (k : Nat) (A0 : Option Addr) (c0 : Nat) (l0 : List (S_impl_Peg)) (a1_0 : Int) (a1_1 : Int) (r : Bool) (w : World) (hr0 : Kd.C kd_impl_Peg w A0 l0.length l0) (hc0 : l0.length ≤ c0) (h : slices_Contains_impl_Peg.f k l0 a1_0 a1_1 = some r) :
  Calls Try.prog 128 #[.slice A0 l0.length c0, .agg #[.int .i64 a1_0, .int .i64 a1_1]] w fun e w' => e = .returned (.bool r) ∧ Below w.heap.size w w' := by
 have hu50 := Try.underlying50; have HR0 := aM hr0; have HC0 := aM hc0; clear hr0 hc0; have HB := aM (Below.refl w.heap.size w)
 unfold slices_Contains_impl_Peg.f at h; have H := h; clear h
 replace H := bS H; obtain ⟨t275, A3, H⟩ := H; obtain rfl := Option.some.inj H
 go_enter Try.func128, Try.ntmps128
 go_wp2_with (first | ((with_reducible refine gate_dst (N := 3) rfl ?_); refine bV 3 (cs := #[.int .i64 a1_0, .int .i64 a1_1]) (t := 50) rfl rfl (by first | (go_simp; done) | (go_simp; rfl)) ?_; intro gb274 hg w4 hbox hb; have BK274 := hbox; have GW274 := gZ HB hg; have GE274 := gZ HB hg; replace HB := tB HB hb; clear hb hbox hg; have hcz5_0 := vZ0 BK274; have hcz5_1 := vZ1 BK274; have hfz5_0 := kF BK274.out 0; have hfz5_1 := kF BK274.out 1) | ((with_reducible refine gC (f := 142) rfl ?_); refine goesL_ (some 7) rfl rfl Try.func142 kR rfl #[.slice A0 l0.length c0, .agg #[.int .i64 a1_0, .int .i64 a1_1]] rfl sQ ?_; (with_reducible refine (slices_Index_impl_Peg.calls k _ _ l0 a1_0 a1_1 t275 _ ?side1 ?side2 A3.out).mono ?_); (case side1 => repeat (first | exact (Kd.C_below HR0.out HB.out) | (with_reducible refine cA ?_ _) | (with_reducible refine cN ?_ _) | (with_reducible refine cD ?_))); (case side2 => exact HC0.out); rintro e w6 ⟨rfl, hb⟩; refine ⟨_, rfl, ?_⟩; replace BK274 := bB BK274 hb; replace HB := tB HB hb; (try clear hb); (try clear hb2); (try clear hk); (try clear hi)))
 go_ret
 exact ⟨wQ, bE⟩

def impl_sign.f (a0 : Int) : Option (Int) := some (mn 1 (mx (-1) a0))
set_option maxHeartbeats 8000000 in
set_option maxRecDepth 100000 in
theorem impl_sign.calls (a0 : Int) (r : Int) (w : World) (h : impl_sign.f a0 = some r) :
  Calls Try.prog 109 #[.int .i64 a0] w fun e w' => e = .returned (.int .i64 r) ∧ Below w.heap.size w w' := by
 have HB := aM (Below.refl w.heap.size w)
 unfold impl_sign.f at h; have H := h; clear h
 obtain ⟨ji2, hji2⟩ : ∃ j_ : Int, (mx (-1) a0) = j_ := ⟨_, rfl⟩
 (first | rw [hji2] at H | simp only [hji2] at H)
 have hji2_ : (if (-1) < a0 then a0 else (-1)) = ji2 := hji2; obtain ⟨ji3, hji3⟩ : ∃ j_ : Int, (mn 1 (ji2)) = j_ := ⟨_, rfl⟩
 (first | rw [hji3] at H | simp only [hji3] at H)
 have hji3_ : (if (ji2) < 1 then (ji2) else 1) = ji3 := hji3; obtain rfl := Option.some.inj H
 go_enter Try.func109, Try.ntmps109
 go_wp2
 go_ret
 exact ⟨by first | rfl | (simp [errW_none, errW_some] <;> rfl) | (simp only [← hji2, ← hji3]; first | rfl | (simp [errW_none, errW_some] <;> rfl)) | (simp [*, errW_none, errW_some] <;> rfl), bQ⟩

def impl_isOn.f (a0_0 : Int) (a0_1 : Int) (a1_0 : Int) (a1_1 : Int) (a2_0 : Int) (a2_1 : Int) : Option (Bool) := (impl_turn.f a0_0 a0_1 a1_0 a1_1 a2_0 a2_1).bind fun t279 => (if t279 = 0 then ((impl_within.f a2_0 (mn a0_0 a1_0) (mx a0_0 a1_0)).bind fun t280 => (if t280 = true then ((impl_within.f a2_1 (mn a0_1 a1_1) (mx a0_1 a1_1)).bind fun t281 => (some t281)) else (some false))) else (some false))
set_option maxHeartbeats 8000000 in
set_option maxRecDepth 100000 in
theorem impl_isOn.calls (a0_0 : Int) (a0_1 : Int) (a1_0 : Int) (a1_1 : Int) (a2_0 : Int) (a2_1 : Int) (r : Bool) (w : World) (h : impl_isOn.f a0_0 a0_1 a1_0 a1_1 a2_0 a2_1 = some r) :
  Calls Try.prog 118 #[.agg #[.int .i64 a0_0, .int .i64 a0_1], .agg #[.int .i64 a1_0, .int .i64 a1_1], .agg #[.int .i64 a2_0, .int .i64 a2_1]] w fun e w' => e = .returned (.bool r) ∧ Below w.heap.size w w' := by
 have hu50 := Try.underlying50; have HB := aM (Below.refl w.heap.size w)
 unfold impl_isOn.f at h; have H := h; clear h
 replace H := bS H; obtain ⟨t279, A4, H⟩ := H
 by_cases c5 : t279 = 0
 ·rw [if_pos c5] at H; have c5b0 : (t279 == 0) = true := beq_iff_eq.mpr c5; have c5b1 : (t279 != 0) = false := bne_eq_false_iff_eq.mpr c5; clear c5; obtain ⟨ji6, hji6⟩ : ∃ j_ : Int, (mn a0_0 a1_0) = j_ := ⟨_, rfl⟩
  (first | rw [hji6] at H | simp only [hji6] at H)
  (try rw [hji6] at A4)
  have hji6_ : (if a1_0 < a0_0 then a1_0 else a0_0) = ji6 := hji6; obtain ⟨ji7, hji7⟩ : ∃ j_ : Int, (mx a0_0 a1_0) = j_ := ⟨_, rfl⟩
  (first | rw [hji7] at H | simp only [hji7] at H)
  (try rw [hji7] at A4)
  have hji7_ : (if a0_0 < a1_0 then a1_0 else a0_0) = ji7 := hji7; replace H := bS H; obtain ⟨t280, A8, H⟩ := H
  by_cases c9 : t280 = true
  ·subst c9; replace H := iT H; obtain ⟨ji10, hji10⟩ : ∃ j_ : Int, (mn a0_1 a1_1) = j_ := ⟨_, rfl⟩
   (first | rw [hji10] at H | simp only [hji10] at H)
   (try rw [hji10] at A4)
   (try rw [hji10] at A8)
   have hji10_ : (if a1_1 < a0_1 then a1_1 else a0_1) = ji10 := hji10; obtain ⟨ji11, hji11⟩ : ∃ j_ : Int, (mx a0_1 a1_1) = j_ := ⟨_, rfl⟩
   (first | rw [hji11] at H | simp only [hji11] at H)
   (try rw [hji11] at A4)
   (try rw [hji11] at A8)
   have hji11_ : (if a0_1 < a1_1 then a1_1 else a0_1) = ji11 := hji11; replace H := bS H; obtain ⟨t281, A12, H⟩ := H; obtain rfl := Option.some.inj H
   go_enter Try.func118, Try.ntmps118
   go_wp2_with (first | ((with_reducible refine gate_dst (N := 3) rfl ?_); (try (refine gate_guard (by rfl) ?_; dsimp only)); refine bV 3 (cs := #[.int .i64 a0_0, .int .i64 a0_1]) (t := 50) rfl rfl (by first | (go_simp; done) | (go_simp; rfl)) ?_; intro gb276 hg w13 hbox hb; have BK276 := hbox; have GW276 := gZ HB hg; have GE276 := gZ HB hg; replace HB := tB HB hb; clear hb hbox hg) | ((with_reducible refine gate_dst (N := 4) rfl ?_); (try (refine gate_guard (by rfl) ?_; dsimp only)); refine bV 4 (cs := #[.int .i64 a1_0, .int .i64 a1_1]) (t := 50) rfl rfl (by first | (go_simp; done) | (go_simp; rfl)) ?_; intro gb277 hg w14 hbox hb; have BK277 := hbox; have GW277 := gZ HB hg; have GE277 := gZ HB hg; have NB276_277 := nG BK276 hg; have NB277_276 := nH BK276 hg; replace BK276 := bB BK276 hb; replace HB := tB HB hb; clear hb hbox hg) | ((with_reducible refine gate_dst (N := 5) rfl ?_); (try (refine gate_guard (by rfl) ?_; dsimp only)); refine bV 5 (cs := #[.int .i64 a2_0, .int .i64 a2_1]) (t := 50) rfl rfl (by first | (go_simp; done) | (go_simp; rfl)) ?_; intro gb278 hg w15 hbox hb; have BK278 := hbox; have GW278 := gZ HB hg; have GE278 := gZ HB hg; have NB276_278 := nG BK276 hg; have NB278_276 := nH BK276 hg; have NB277_278 := nG BK277 hg; have NB278_277 := nH BK277 hg; replace BK276 := bB BK276 hb; replace BK277 := bB BK277 hb; replace HB := tB HB hb; clear hb hbox hg; have hnb16 := NB276_277.out; have hnc16 := NB277_276.out; have hnb17 := NB276_278.out; have hnc17 := NB278_276.out; have hcz18_0 := vZ0 BK276; have hcz18_1 := vZ1 BK276; have hfz18_0 := kF BK276.out 0; have hfz18_1 := kF BK276.out 1; have hnb19 := NB277_278.out; have hnc19 := NB278_277.out; have hcz20_0 := vZ0 BK277; have hcz20_1 := vZ1 BK277; have hfz20_0 := kF BK277.out 0; have hfz20_1 := kF BK277.out 1; have hcz21_0 := vZ0 BK278; have hcz21_1 := vZ1 BK278; have hfz21_0 := kF BK278.out 0; have hfz21_1 := kF BK278.out 1) | ((with_reducible refine gC (f := 119) rfl ?_); refine goesL_ (some 10) rfl rfl Try.func119 kR rfl #[.agg #[.int .i64 a0_0, .int .i64 a0_1], .agg #[.int .i64 a1_0, .int .i64 a1_1], .agg #[.int .i64 a2_0, .int .i64 a2_1]] rfl sQ ?_; (with_reducible refine (impl_turn.calls a0_0 a0_1 a1_0 a1_1 a2_0 a2_1 t279 _ A4.out).mono ?_); rintro e w22 ⟨rfl, hb⟩; refine ⟨_, rfl, ?_⟩; replace BK276 := bB BK276 hb; replace BK277 := bB BK277 hb; replace BK278 := bB BK278 hb; replace HB := tB HB hb; (try clear hb); (try clear hb2); (try clear hk); (try clear hi); have hcz23_0 := vZ0 BK278; have hcz23_1 := vZ1 BK278; have hfz23_0 := kF BK278.out 0; have hfz23_1 := kF BK278.out 1; have hcz24_0 := vZ0 BK276; have hcz24_1 := vZ1 BK276; have hfz24_0 := kF BK276.out 0; have hfz24_1 := kF BK276.out 1; have hcz25_0 := vZ0 BK277; have hcz25_1 := vZ1 BK277; have hfz25_0 := kF BK277.out 0; have hfz25_1 := kF BK277.out 1) | (go_at_call 63; (with_reducible refine (impl_within.calls a2_0 ji6 ji7 true _ A8.out).mono ?_); rintro e w' ⟨rfl, ⟨nd, rfl⟩⟩) | (go_at_call 63; (with_reducible refine (impl_within.calls a2_1 ji10 ji11 t281 _ A12.out).mono ?_); rintro e w' ⟨rfl, ⟨nd, rfl⟩⟩))
   go_ret
   exact ⟨by first | rfl | (simp [errW_none, errW_some] <;> rfl) | (simp only [← hji6, ← hji7, ← hji10, ← hji11]; first | rfl | (simp [errW_none, errW_some] <;> rfl)) | (simp [*, errW_none, errW_some] <;> rfl), bE⟩
  ·replace c9 := Bool.eq_false_iff.mpr c9; subst c9; replace H := iF H; obtain rfl := Option.some.inj H
   go_enter Try.func118, Try.ntmps118
   go_wp2_with (first | ((with_reducible refine gate_dst (N := 3) rfl ?_); (try (refine gate_guard (by rfl) ?_; dsimp only)); refine bV 3 (cs := #[.int .i64 a0_0, .int .i64 a0_1]) (t := 50) rfl rfl (by first | (go_simp; done) | (go_simp; rfl)) ?_; intro gb276 hg w26 hbox hb; have BK276 := hbox; have GW276 := gZ HB hg; have GE276 := gZ HB hg; replace HB := tB HB hb; clear hb hbox hg) | ((with_reducible refine gate_dst (N := 4) rfl ?_); (try (refine gate_guard (by rfl) ?_; dsimp only)); refine bV 4 (cs := #[.int .i64 a1_0, .int .i64 a1_1]) (t := 50) rfl rfl (by first | (go_simp; done) | (go_simp; rfl)) ?_; intro gb277 hg w27 hbox hb; have BK277 := hbox; have GW277 := gZ HB hg; have GE277 := gZ HB hg; have NB276_277 := nG BK276 hg; have NB277_276 := nH BK276 hg; replace BK276 := bB BK276 hb; replace HB := tB HB hb; clear hb hbox hg) | ((with_reducible refine gate_dst (N := 5) rfl ?_); (try (refine gate_guard (by rfl) ?_; dsimp only)); refine bV 5 (cs := #[.int .i64 a2_0, .int .i64 a2_1]) (t := 50) rfl rfl (by first | (go_simp; done) | (go_simp; rfl)) ?_; intro gb278 hg w28 hbox hb; have BK278 := hbox; have GW278 := gZ HB hg; have GE278 := gZ HB hg; have NB276_278 := nG BK276 hg; have NB278_276 := nH BK276 hg; have NB277_278 := nG BK277 hg; have NB278_277 := nH BK277 hg; replace BK276 := bB BK276 hb; replace BK277 := bB BK277 hb; replace HB := tB HB hb; clear hb hbox hg; have hnb29 := NB276_277.out; have hnc29 := NB277_276.out; have hnb30 := NB276_278.out; have hnc30 := NB278_276.out; have hcz31_0 := vZ0 BK276; have hcz31_1 := vZ1 BK276; have hfz31_0 := kF BK276.out 0; have hfz31_1 := kF BK276.out 1; have hnb32 := NB277_278.out; have hnc32 := NB278_277.out; have hcz33_0 := vZ0 BK277; have hcz33_1 := vZ1 BK277; have hfz33_0 := kF BK277.out 0; have hfz33_1 := kF BK277.out 1; have hcz34_0 := vZ0 BK278; have hcz34_1 := vZ1 BK278; have hfz34_0 := kF BK278.out 0; have hfz34_1 := kF BK278.out 1) | ((with_reducible refine gC (f := 119) rfl ?_); refine goesL_ (some 10) rfl rfl Try.func119 kR rfl #[.agg #[.int .i64 a0_0, .int .i64 a0_1], .agg #[.int .i64 a1_0, .int .i64 a1_1], .agg #[.int .i64 a2_0, .int .i64 a2_1]] rfl sQ ?_; (with_reducible refine (impl_turn.calls a0_0 a0_1 a1_0 a1_1 a2_0 a2_1 t279 _ A4.out).mono ?_); rintro e w35 ⟨rfl, hb⟩; refine ⟨_, rfl, ?_⟩; replace BK276 := bB BK276 hb; replace BK277 := bB BK277 hb; replace BK278 := bB BK278 hb; replace HB := tB HB hb; (try clear hb); (try clear hb2); (try clear hk); (try clear hi); have hcz36_0 := vZ0 BK278; have hcz36_1 := vZ1 BK278; have hfz36_0 := kF BK278.out 0; have hfz36_1 := kF BK278.out 1; have hcz37_0 := vZ0 BK276; have hcz37_1 := vZ1 BK276; have hfz37_0 := kF BK276.out 0; have hfz37_1 := kF BK276.out 1; have hcz38_0 := vZ0 BK277; have hcz38_1 := vZ1 BK277; have hfz38_0 := kF BK277.out 0; have hfz38_1 := kF BK277.out 1) | (go_at_call 63; (with_reducible refine (impl_within.calls a2_0 ji6 ji7 false _ A8.out).mono ?_); rintro e w' ⟨rfl, ⟨nd, rfl⟩⟩))
   go_ret
   exact ⟨by first | rfl | (simp [errW_none, errW_some] <;> rfl) | (simp only [← hji6, ← hji7]; first | rfl | (simp [errW_none, errW_some] <;> rfl)) | (simp [*, errW_none, errW_some] <;> rfl), bE⟩
 ·rw [if_neg c5] at H; have c5b0 : (t279 == 0) = false := beq_eq_false_iff_ne.mpr c5; have c5b1 : (t279 != 0) = true := bne_iff_ne.mpr c5; obtain rfl := Option.some.inj H
  go_enter Try.func118, Try.ntmps118
  go_wp2_with (first | ((with_reducible refine gate_dst (N := 3) rfl ?_); (try (refine gate_guard (by rfl) ?_; dsimp only)); refine bV 3 (cs := #[.int .i64 a0_0, .int .i64 a0_1]) (t := 50) rfl rfl (by first | (go_simp; done) | (go_simp; rfl)) ?_; intro gb276 hg w39 hbox hb; have BK276 := hbox; have GW276 := gZ HB hg; have GE276 := gZ HB hg; replace HB := tB HB hb; clear hb hbox hg) | ((with_reducible refine gate_dst (N := 4) rfl ?_); (try (refine gate_guard (by rfl) ?_; dsimp only)); refine bV 4 (cs := #[.int .i64 a1_0, .int .i64 a1_1]) (t := 50) rfl rfl (by first | (go_simp; done) | (go_simp; rfl)) ?_; intro gb277 hg w40 hbox hb; have BK277 := hbox; have GW277 := gZ HB hg; have GE277 := gZ HB hg; have NB276_277 := nG BK276 hg; have NB277_276 := nH BK276 hg; replace BK276 := bB BK276 hb; replace HB := tB HB hb; clear hb hbox hg) | ((with_reducible refine gate_dst (N := 5) rfl ?_); (try (refine gate_guard (by rfl) ?_; dsimp only)); refine bV 5 (cs := #[.int .i64 a2_0, .int .i64 a2_1]) (t := 50) rfl rfl (by first | (go_simp; done) | (go_simp; rfl)) ?_; intro gb278 hg w41 hbox hb; have BK278 := hbox; have GW278 := gZ HB hg; have GE278 := gZ HB hg; have NB276_278 := nG BK276 hg; have NB278_276 := nH BK276 hg; have NB277_278 := nG BK277 hg; have NB278_277 := nH BK277 hg; replace BK276 := bB BK276 hb; replace BK277 := bB BK277 hb; replace HB := tB HB hb; clear hb hbox hg; have hnb42 := NB276_277.out; have hnc42 := NB277_276.out; have hnb43 := NB276_278.out; have hnc43 := NB278_276.out; have hcz44_0 := vZ0 BK276; have hcz44_1 := vZ1 BK276; have hfz44_0 := kF BK276.out 0; have hfz44_1 := kF BK276.out 1; have hnb45 := NB277_278.out; have hnc45 := NB278_277.out; have hcz46_0 := vZ0 BK277; have hcz46_1 := vZ1 BK277; have hfz46_0 := kF BK277.out 0; have hfz46_1 := kF BK277.out 1; have hcz47_0 := vZ0 BK278; have hcz47_1 := vZ1 BK278; have hfz47_0 := kF BK278.out 0; have hfz47_1 := kF BK278.out 1) | ((with_reducible refine gC (f := 119) rfl ?_); refine goesL_ (some 10) rfl rfl Try.func119 kR rfl #[.agg #[.int .i64 a0_0, .int .i64 a0_1], .agg #[.int .i64 a1_0, .int .i64 a1_1], .agg #[.int .i64 a2_0, .int .i64 a2_1]] rfl sQ ?_; (with_reducible refine (impl_turn.calls a0_0 a0_1 a1_0 a1_1 a2_0 a2_1 t279 _ A4.out).mono ?_); rintro e w48 ⟨rfl, hb⟩; refine ⟨_, rfl, ?_⟩; replace BK276 := bB BK276 hb; replace BK277 := bB BK277 hb; replace BK278 := bB BK278 hb; replace HB := tB HB hb; (try clear hb); (try clear hb2); (try clear hk); (try clear hi)))
  go_ret
  exact ⟨wQ, bE⟩

end Go.Proofs.Ytfihohongkfibaa.X
