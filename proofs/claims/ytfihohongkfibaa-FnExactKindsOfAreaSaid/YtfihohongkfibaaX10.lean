-- thin
-- short
-- compact
import Derived.Test.YtfihohongkfibaaXA
import Derived.Test.YtfihohongkfibaaX0
import Derived.Test.YtfihohongkfibaaX3
import Derived.Test.YtfihohongkfibaaX5
import Derived.Test.YtfihohongkfibaaX9
namespace Go.Proofs.Ytfihohongkfibaa.X
open Go.RowKit Go.Proofs.Ytfihohongkfibaa.XW Go.Proofs.YtfihohongkfibaaW.PrintWords Go.Proofs.YtfihohongkfibaaW.PrintLast Go.Proofs.YtfihohongkfibaaW.PrintMore
attribute [local go_sem] max2_int min2_int max_two min_two max_three min_three max_four min_four   -- for this text's walks alone
set_option linter.unusedVariables false
set_option linter.unusedSimpArgs false

def spec_KindOfPolygon.l0 : Nat → List (S_impl_Peg) → List (S_impl_Peg) → Int → Int → Option ((List (S_impl_Peg)) × Bool)
 | 0, _, _, _, _ => none
 | k + 1, x4, x12, x13, x14 => if x14 < x13 then (if 0 ≤ x14 then (if x14 < (x12.length : Int) then ((spec_pgIs.f ((rd_impl_Peg x12 x14).f0) ((rd_impl_Peg x12 x14).f1)).bind fun t247 => (if t247 = true then (spec_KindOfPolygon.l0 k x4 x12 x13 (wrap64 (x14 + 1))) else (some (([] : List (S_impl_Peg)), false)))) else (none)) else (none)) else (some (x4, true))
def spec_KindOfPolygon.f (k : Nat) (l0 : List (S_impl_Peg)) : Option ((List (S_impl_Peg)) × Bool) := (spec_pgGood.f k l0).bind fun t241 => (if t241 = true then ((spec_mvKind.f k l0).bind fun t242 => (spec_KindOfPolygon.l0 k t242 t242 (t242.length : Int) 0)) else (some (([] : List (S_impl_Peg)), false)))
theorem spec_KindOfPolygon.mono_l : ∀ k, (∀ y0 y1 y2 y3, LeO (spec_KindOfPolygon.l0 k y0 y1 y2 y3) (spec_KindOfPolygon.l0 (k + 1) y0 y1 y2 y3))
 | 0 => fun _ _ _ _ r h => by simp [spec_KindOfPolygon.l0] at h
 | k + 1 => by
  have ih0 := spec_KindOfPolygon.mono_l k
  ·intro y0 y1 y2 y3
   unfold spec_KindOfPolygon.l0
   repeat' first
   | (with_reducible exact ih0 _ _ _ _)
   | (with_reducible exact spec_mvKind.mono _ _)
   | (with_reducible exact spec_pgGood.mono _ _)
   | (with_reducible exact LeO.refl _)
   | (with_reducible exact LeO.none _)
   | (with_reducible refine LeO.ite ?_ ?_)
   | (with_reducible refine LeO.bind ?_ (fun _ => ?_))
   | exact ih0 _ _ _ _
   | exact spec_mvKind.mono _ _
   | exact spec_pgGood.mono _ _
   | exact LeO.none _
   | refine LeO.ite ?_ ?_
   | refine LeO.bind ?_ (fun _ => ?_)
theorem spec_KindOfPolygon.mono : ∀ a0 k, LeO (spec_KindOfPolygon.f k a0) (spec_KindOfPolygon.f (k + 1) a0) := by
 intro a0 k
 have ih0 := spec_KindOfPolygon.mono_l k
 unfold spec_KindOfPolygon.f
 repeat' first | (with_reducible exact ih0 _ _ _ _) | (with_reducible exact spec_mvKind.mono _ _) | (with_reducible exact spec_pgGood.mono _ _) | (with_reducible exact LeO.refl _) | (with_reducible exact LeO.none _) | (with_reducible refine LeO.ite ?_ ?_) | (with_reducible refine LeO.bind ?_ (fun _ => ?_)) | exact ih0 _ _ _ _ | exact spec_mvKind.mono _ _ | exact spec_pgGood.mono _ _ | exact LeO.none _ | refine LeO.ite ?_ ?_ | refine LeO.bind ?_ (fun _ => ?_)
set_option maxHeartbeats 8000000 in
set_option maxRecDepth 100000 in
theorem spec_KindOfPolygon.calls (k : Nat) (P0_ : Nat → Prop) (A0 : Option Addr) (c0 : Nat) (l0 : List (S_impl_Peg)) (r1 : List (S_impl_Peg)) (r2 : Bool) (w : World) (hs0 : Kd.V kd_impl_Peg 50 w w.heap.size (fun k_ => P0_ k_) (.slice A0 l0.length c0) l0) (h : spec_KindOfPolygon.f k l0 = some (r1, r2)) :
  Calls Try.prog 40 #[.slice A0 l0.length c0] w fun e w' => ∃ v0_ : Value, e = .returned (.tuple #[v0_, .bool r2]) ∧ Kd.V kd_impl_Peg 50 w' w.heap.size (fun k_ => (P0_ k_ ∨ w.heap.size ≤ k_)) v0_ r1 ∧ Below w.heap.size w w' := by
 have hu50 := Try.underlying50; have HO0 := aM (show Kd.V kd_impl_Peg 50 w w.heap.size (fun k_ => (P0_ k_ ∨ w.heap.size ≤ k_)) (.slice A0 l0.length c0) l0 from Kd.V_mono hs0 (fun k_ hk => .inl hk)); have HB := aM (Below.refl w.heap.size w)
 unfold spec_KindOfPolygon.f at h; have H := h; clear h
 replace H := bS H; obtain ⟨t241, A2, H⟩ := H
 by_cases c3 : t241 = true
 ·subst c3; replace H := iT H; replace H := bS H; obtain ⟨t242, A4, H⟩ := H; have H' := aM H; clear H
  go_enter Try.func40, Try.ntmps40
  go_wp2_with (first | ((with_reducible refine gC (f := 53) rfl ?_); refine goesL_ (some 8) rfl rfl Try.func53 kR rfl #[.slice A0 l0.length c0] rfl sQ ?_; (with_reducible refine (spec_pgGood.calls k _ _ l0 true _ ?side1 ?side2 A2.out).mono ?_); (case side1 => repeat (first | exact (Kd.V_reads' HO0.out).2.2 | (with_reducible refine cA ?_ _) | (with_reducible refine cN ?_ _) | (with_reducible refine cD ?_))); (case side2 => exact (Kd.V_reads' HO0.out).2.1); rintro e w5 ⟨rfl, hb⟩; refine ⟨_, rfl, ?_⟩; replace HO0 := aM (Kd.V_below (by (with_reducible repeat (first | apply Kd.V_alloc | apply Kd.V_drewN | apply Kd.V_drew)); exact HO0.out) hb); replace HB := tB HB hb; (try clear hb); (try clear hb2); (try clear hk); (try clear hi)) | ((with_reducible refine gC (f := 87) rfl ?_); refine goesL_ (some 11) rfl rfl Try.func87 kR rfl #[.slice A0 l0.length c0] rfl sQ ?_; (with_reducible refine (spec_mvKind.calls k (fun k_ => (P0_ k_ ∨ w.heap.size ≤ k_)) _ _ l0 t242 _ ?side1 A4.out).mono ?_); (case side1 => exact HO0.out); rintro e w6 ⟨v243, rfl, ho0, hb⟩; refine ⟨_, rfl, ?_⟩; have HO244 := aM (Kd.V_lower (Kd.V_mono (ok' := fun k_ => (P0_ k_ ∨ w.heap.size ≤ k_)) ho0 (fun k_ hk_ => Or.elim hk_ (fun hs_ => hs_) (fun hn_ => (.inr (Nat.le_trans (pZ bQ) hn_))))) (pZ bQ)); replace HO0 := aM (Kd.V_below (by (with_reducible repeat (first | apply Kd.V_alloc | apply Kd.V_drewN | apply Kd.V_drew)); exact HO0.out) hb); replace HB := tB HB hb; (try clear hb); (try clear hb2); (try clear hk); (try clear hi); (try clear ho0); obtain ⟨Ao7, co7, eo7⟩ := Kd.V_slice HO244.out; subst eo7))
  go_loopg [14] k (fun kq v14 w' => ∃ (x14_1 : Int), v14 = .int .i64 x14_1 ∧ Aside0 (spec_KindOfPolygon.l0 kq t242 t242 (t242.length : Int) x14_1 = some (r1, r2)) ∧ Aside0 (kq ≤ k) ∧ Aside0 (Kd.V kd_impl_Peg 50 w' w.heap.size (fun k_ => (P0_ k_ ∨ w.heap.size ≤ k_)) (.slice Ao7 t242.length co7) t242) ∧ Aside0 (Kd.V kd_impl_Peg 50 w' w.heap.size (fun k_ => (P0_ k_ ∨ w.heap.size ≤ k_)) (.slice Ao7 t242.length co7) t242) ∧ Aside0 (Below w.heap.size w w'))
  case atStart => exact ⟨(0), eQ, H', ⟨Nat.le_refl _⟩, ⟨by (with_reducible repeat (first | apply Kd.V_alloc | apply Kd.V_drewN | apply Kd.V_drew)); exact HO244.out⟩, ⟨by (with_reducible repeat (first | apply Kd.V_alloc | apply Kd.V_drewN | apply Kd.V_drew)); exact HO244.out⟩, ⟨bQ⟩⟩
  case round =>
   clear H'; (try clear c3); obtain ⟨x14_1, rfl, HA, HK1, HO_4, HO_12, HB⟩ := hrel
   cases gk with
   | zero => exact absurd HA.out (by simp [spec_KindOfPolygon.l0])
   | succ k1 =>
    have H := HA.out; clear HA
    simp only [spec_KindOfPolygon.l0] at H
    by_cases c8 : x14_1 < (t242.length : Int)
    ·rw [if_pos c8] at H; have c8b0 := dE c8; clear c8; replace H := iD H; obtain ⟨c9b0, H⟩ := H; replace H := iD H; obtain ⟨c10b0, H⟩ := H; replace H := bS H; obtain ⟨t247, A11, H⟩ := H
     by_cases c12 : t247 = true
     ·subst c12; replace H := iT H; have H' := aM H; clear H; have p245 : 0 ≤ (x14_1 : Int) := dT aQ; have q245 : x14_1 < (t242.length : Int) := dT aQ; obtain ⟨ad245, e245, hx245_0, hx245_1⟩ := at_impl_Peg (Kd.V_reads' HO_12.out).2.2 x14_1 p245 q245
      cases e245
      replace p245 := eq_true p245; replace q245 := eq_true q245
      go_wp2_with (first | ((with_reducible refine gate_dst (N := 6) rfl ?_); refine bV 6 (cs := #[.int .i64 0, .int .i64 0]) (t := 50) rfl rfl (by first | (go_simp; done) | (go_simp; rfl)) ?_; intro gb246 hg w13 hbox hb; have BK246 := hbox; have GW246 := gZ HB hg; have GE246 := gZ HB hg; replace HO_4 := aM (Kd.V_below (Kd.V_elderB (by (with_reducible repeat (first | apply Kd.V_alloc | apply Kd.V_drewN | apply Kd.V_drew)); exact HO_4.out) gb246 (Nat.le_of_eq hg.symm)) hb); replace HO_12 := aM (Kd.V_below (Kd.V_elderB (by (with_reducible repeat (first | apply Kd.V_alloc | apply Kd.V_drewN | apply Kd.V_drew)); exact HO_12.out) gb246 (Nat.le_of_eq hg.symm)) hb); replace HB := tB HB hb; clear hb hbox hg; have hcz14_0 := vZ0 BK246; have hcz14_1 := vZ1 BK246; have hfz14_0 := kF BK246.out 0; have hfz14_1 := kF BK246.out 1) | ((with_reducible refine gC (f := 78) rfl ?_); refine goesL_ (some 19) rfl rfl Try.func78 kR rfl #[.agg #[.int .i64 ((rd_impl_Peg t242 x14_1).f0), .int .i64 ((rd_impl_Peg t242 x14_1).f1)]] rfl sQ ?_; (with_reducible refine (spec_pgIs.calls ((rd_impl_Peg t242 x14_1).f0) ((rd_impl_Peg t242 x14_1).f1) true _ A11.out).mono ?_); rintro e w15 ⟨rfl, hb⟩; refine ⟨_, rfl, ?_⟩; replace HO_4 := aM (Kd.V_below (by (with_reducible repeat (first | apply Kd.V_alloc | apply Kd.V_drewN | apply Kd.V_drew)); exact (Kd.V_mono (Kd.V_far (p := ⟨gb246, 1, none⟩) (Kd.V_far (p := ⟨gb246, 0, none⟩) (Kd.V_mono HO_4.out (fun k_ hk => (⟨hk, hk.2⟩ : _ ∧ k_ ≠ gb246))) (fun _ hk => hk.2) (.int .i64 ((rd_impl_Peg t242 x14_1).f0))) (fun _ hk => hk.2) (.int .i64 ((rd_impl_Peg t242 x14_1).f1))) (fun _ h_ => h_.1))) hb); replace HO_12 := aM (Kd.V_below (by (with_reducible repeat (first | apply Kd.V_alloc | apply Kd.V_drewN | apply Kd.V_drew)); exact (Kd.V_mono (Kd.V_far (p := ⟨gb246, 1, none⟩) (Kd.V_far (p := ⟨gb246, 0, none⟩) (Kd.V_mono HO_12.out (fun k_ hk => (⟨hk, hk.2⟩ : _ ∧ k_ ≠ gb246))) (fun _ hk => hk.2) (.int .i64 ((rd_impl_Peg t242 x14_1).f0))) (fun _ hk => hk.2) (.int .i64 ((rd_impl_Peg t242 x14_1).f1))) (fun _ h_ => h_.1))) hb); replace BK246 := aM (blk_below (g := gb246) (o := .cells #[.int .i64 ((rd_impl_Peg t242 x14_1).f0), .int .i64 ((rd_impl_Peg t242 x14_1).f1)] 50 (0, 0)) (fQ BK246) hb); replace HB := tB HB hb; (try clear hb); (try clear hb2); (try clear hk); (try clear hi)))
      go_roundg k1
      case measure => have := HK1.out; omega
      case rel => exact ⟨(wrap64 (x14_1 + 1)), eQ, H', ⟨by have := HK1.out; omega⟩, ⟨by (with_reducible repeat (first | apply Kd.V_alloc | apply Kd.V_drewN | apply Kd.V_drew)); exact Kd.V_mono HO_4.out (fun _ hk => hk.1)⟩, ⟨by (with_reducible repeat (first | apply Kd.V_alloc | apply Kd.V_drewN | apply Kd.V_drew)); exact Kd.V_mono HO_12.out (fun _ hk => hk.1)⟩, ⟨bE⟩⟩
     ·replace c12 := Bool.eq_false_iff.mpr c12; subst c12; replace H := iF H
      simp only [Option.some.injEq, Prod.mk.injEq] at H
      obtain ⟨rfl, rfl⟩ := H; have p245 : 0 ≤ (x14_1 : Int) := dT aQ; have q245 : x14_1 < (t242.length : Int) := dT aQ; obtain ⟨ad245, e245, hx245_0, hx245_1⟩ := at_impl_Peg (Kd.V_reads' HO_12.out).2.2 x14_1 p245 q245
      cases e245
      replace p245 := eq_true p245; replace q245 := eq_true q245
      go_wp2_with (first | ((with_reducible refine gate_dst (N := 6) rfl ?_); refine bV 6 (cs := #[.int .i64 0, .int .i64 0]) (t := 50) rfl rfl (by first | (go_simp; done) | (go_simp; rfl)) ?_; intro gb246 hg w16 hbox hb; have BK246 := hbox; have GW246 := gZ HB hg; have GE246 := gZ HB hg; replace HO_4 := aM (Kd.V_below (Kd.V_elderB (by (with_reducible repeat (first | apply Kd.V_alloc | apply Kd.V_drewN | apply Kd.V_drew)); exact HO_4.out) gb246 (Nat.le_of_eq hg.symm)) hb); replace HO_12 := aM (Kd.V_below (Kd.V_elderB (by (with_reducible repeat (first | apply Kd.V_alloc | apply Kd.V_drewN | apply Kd.V_drew)); exact HO_12.out) gb246 (Nat.le_of_eq hg.symm)) hb); replace HB := tB HB hb; clear hb hbox hg; have hcz17_0 := vZ0 BK246; have hcz17_1 := vZ1 BK246; have hfz17_0 := kF BK246.out 0; have hfz17_1 := kF BK246.out 1) | ((with_reducible refine gC (f := 78) rfl ?_); refine goesL_ (some 19) rfl rfl Try.func78 kR rfl #[.agg #[.int .i64 ((rd_impl_Peg t242 x14_1).f0), .int .i64 ((rd_impl_Peg t242 x14_1).f1)]] rfl sQ ?_; (with_reducible refine (spec_pgIs.calls ((rd_impl_Peg t242 x14_1).f0) ((rd_impl_Peg t242 x14_1).f1) false _ A11.out).mono ?_); rintro e w18 ⟨rfl, hb⟩; refine ⟨_, rfl, ?_⟩; replace HO_4 := aM (Kd.V_below (by (with_reducible repeat (first | apply Kd.V_alloc | apply Kd.V_drewN | apply Kd.V_drew)); exact (Kd.V_mono (Kd.V_far (p := ⟨gb246, 1, none⟩) (Kd.V_far (p := ⟨gb246, 0, none⟩) (Kd.V_mono HO_4.out (fun k_ hk => (⟨hk, hk.2⟩ : _ ∧ k_ ≠ gb246))) (fun _ hk => hk.2) (.int .i64 ((rd_impl_Peg t242 x14_1).f0))) (fun _ hk => hk.2) (.int .i64 ((rd_impl_Peg t242 x14_1).f1))) (fun _ h_ => h_.1))) hb); replace HO_12 := aM (Kd.V_below (by (with_reducible repeat (first | apply Kd.V_alloc | apply Kd.V_drewN | apply Kd.V_drew)); exact (Kd.V_mono (Kd.V_far (p := ⟨gb246, 1, none⟩) (Kd.V_far (p := ⟨gb246, 0, none⟩) (Kd.V_mono HO_12.out (fun k_ hk => (⟨hk, hk.2⟩ : _ ∧ k_ ≠ gb246))) (fun _ hk => hk.2) (.int .i64 ((rd_impl_Peg t242 x14_1).f0))) (fun _ hk => hk.2) (.int .i64 ((rd_impl_Peg t242 x14_1).f1))) (fun _ h_ => h_.1))) hb); replace BK246 := aM (blk_below (g := gb246) (o := .cells #[.int .i64 ((rd_impl_Peg t242 x14_1).f0), .int .i64 ((rd_impl_Peg t242 x14_1).f1)] 50 (0, 0)) (fQ BK246) hb); replace HB := tB HB hb; (try clear hb); (try clear hb2); (try clear hk); (try clear hi)))
      go_ret2
      exact ⟨_, by first | rfl | (simp [errW_none, errW_some] <;> rfl) | (simp [*, errW_none, errW_some] <;> rfl), Kd.V_nil _ _ _ _ _, bE⟩
    ·rw [if_neg c8] at H; have c8b0 := decide_eq_false c8; clear c8
     simp only [Option.some.injEq, Prod.mk.injEq] at H
     obtain ⟨rfl, rfl⟩ := H; go_wp2
     go_ret2
     exact ⟨_, by first | rfl | (simp [errW_none, errW_some] <;> rfl) | (simp [*, errW_none, errW_some] <;> rfl), by (with_reducible repeat (first | apply Kd.V_alloc | apply Kd.V_drewN | apply Kd.V_drew)); exact HO_4.out, bQ⟩
 ·replace c3 := Bool.eq_false_iff.mpr c3; subst c3; replace H := iF H
  simp only [Option.some.injEq, Prod.mk.injEq] at H
  obtain ⟨rfl, rfl⟩ := H
  go_enter Try.func40, Try.ntmps40
  go_wp2_with (first | ((with_reducible refine gC (f := 53) rfl ?_); refine goesL_ (some 8) rfl rfl Try.func53 kR rfl #[.slice A0 l0.length c0] rfl sQ ?_; (with_reducible refine (spec_pgGood.calls k _ _ l0 false _ ?side1 ?side2 A2.out).mono ?_); (case side1 => repeat (first | exact (Kd.V_reads' HO0.out).2.2 | (with_reducible refine cA ?_ _) | (with_reducible refine cN ?_ _) | (with_reducible refine cD ?_))); (case side2 => exact (Kd.V_reads' HO0.out).2.1); rintro e w19 ⟨rfl, hb⟩; refine ⟨_, rfl, ?_⟩; replace HO0 := aM (Kd.V_below (by (with_reducible repeat (first | apply Kd.V_alloc | apply Kd.V_drewN | apply Kd.V_drew)); exact HO0.out) hb); replace HB := tB HB hb; (try clear hb); (try clear hb2); (try clear hk); (try clear hi)))
  go_ret2
  exact ⟨_, by first | rfl | (simp [errW_none, errW_some] <;> rfl) | (simp [*, errW_none, errW_some] <;> rfl), Kd.V_nil _ _ _ _ _, bQ⟩

def impl_within.f (a0 : Int) (a1 : Int) (a2 : Int) : Option (Bool) := if a0 ≥ a1 then (some (decide (a0 ≤ a2))) else (some false)
set_option maxHeartbeats 8000000 in
set_option maxRecDepth 100000 in
theorem impl_within.calls (a0 : Int) (a1 : Int) (a2 : Int) (r : Bool) (w : World) (h : impl_within.f a0 a1 a2 = some r) :
  Calls Try.prog 63 #[.int .i64 a0, .int .i64 a1, .int .i64 a2] w fun e w' => e = .returned (.bool r) ∧ Drawn0 w w' := by
 unfold impl_within.f at h; have H := h; clear h
 by_cases c4 : a0 ≥ a1
 ·rw [if_pos c4] at H; have c4b0 := dE c4; clear c4; obtain rfl := Option.some.inj H
  go_enter Try.func63, Try.ntmps63
  go_wp2
  go_ret
  exact ⟨eQ, dQ⟩
 ·rw [if_neg c4] at H; have c4b0 := decide_eq_false c4; clear c4; obtain rfl := Option.some.inj H
  go_enter Try.func63, Try.ntmps63
  go_wp2
  go_ret
  exact ⟨eQ, dQ⟩

-- NOT PRINTED: function 145 (slices_IndexFunc_impl_Peg)

-- NOT PRINTED: function 131 (slices_ContainsFunc_impl_Peg)

def impl_IsPeg.f (a0_0 : Int) (a0_1 : Int) : Option (Bool) := (impl_within.f a0_0 (-40) 40).bind fun t249 => (if t249 = true then ((impl_within.f a0_1 (-40) 40).bind fun t250 => (some t250)) else (some false))
set_option maxHeartbeats 8000000 in
set_option maxRecDepth 100000 in
theorem impl_IsPeg.calls (a0_0 : Int) (a0_1 : Int) (r : Bool) (w : World) (h : impl_IsPeg.f a0_0 a0_1 = some r) :
  Calls Try.prog 80 #[.agg #[.int .i64 a0_0, .int .i64 a0_1]] w fun e w' => e = .returned (.bool r) ∧ Below w.heap.size w w' := by
 have hu50 := Try.underlying50; have HB := aM (Below.refl w.heap.size w)
 unfold impl_IsPeg.f at h; have H := h; clear h
 replace H := bS H; obtain ⟨t249, A2, H⟩ := H
 by_cases c3 : t249 = true
 ·subst c3; replace H := iT H; replace H := bS H; obtain ⟨t250, A4, H⟩ := H; obtain rfl := Option.some.inj H
  go_enter Try.func80, Try.ntmps80
  go_wp2_with (first | ((with_reducible refine gate_dst (N := 1) rfl ?_); refine bV 1 (cs := #[.int .i64 a0_0, .int .i64 a0_1]) (t := 50) rfl rfl (by first | (go_simp; done) | (go_simp; rfl)) ?_; intro gb248 hg w5 hbox hb; have BK248 := hbox; have GW248 := gZ HB hg; have GE248 := gZ HB hg; replace HB := tB HB hb; clear hb hbox hg; have hcz6_0 := vZ0 BK248; have hcz6_1 := vZ1 BK248; have hfz6_0 := kF BK248.out 0; have hfz6_1 := kF BK248.out 1) | ((with_reducible refine gC (f := 63) rfl ?_); refine goesL_ (some 5) rfl rfl Try.func63 kR rfl #[.int .i64 a0_0, .int .i64 (-40), .int .i64 40] rfl sQ ?_; (with_reducible refine (impl_within.calls a0_0 (-40) 40 true _ A2.out).mono ?_); rintro e w' ⟨rfl, ⟨nd, rfl⟩⟩; refine ⟨_, rfl, ?_⟩) | (go_at_call 63; (with_reducible refine (impl_within.calls a0_1 (-40) 40 t250 _ A4.out).mono ?_); rintro e w' ⟨rfl, ⟨nd, rfl⟩⟩))
  go_ret
  exact ⟨wQ, bE⟩
 ·replace c3 := Bool.eq_false_iff.mpr c3; subst c3; replace H := iF H; obtain rfl := Option.some.inj H
  go_enter Try.func80, Try.ntmps80
  go_wp2_with (first | ((with_reducible refine gate_dst (N := 1) rfl ?_); refine bV 1 (cs := #[.int .i64 a0_0, .int .i64 a0_1]) (t := 50) rfl rfl (by first | (go_simp; done) | (go_simp; rfl)) ?_; intro gb248 hg w7 hbox hb; have BK248 := hbox; have GW248 := gZ HB hg; have GE248 := gZ HB hg; replace HB := tB HB hb; clear hb hbox hg; have hcz8_0 := vZ0 BK248; have hcz8_1 := vZ1 BK248; have hfz8_0 := kF BK248.out 0; have hfz8_1 := kF BK248.out 1) | ((with_reducible refine gC (f := 63) rfl ?_); refine goesL_ (some 5) rfl rfl Try.func63 kR rfl #[.int .i64 a0_0, .int .i64 (-40), .int .i64 40] rfl sQ ?_; (with_reducible refine (impl_within.calls a0_0 (-40) 40 false _ A2.out).mono ?_); rintro e w' ⟨rfl, ⟨nd, rfl⟩⟩; refine ⟨_, rfl, ?_⟩))
  go_ret
  exact ⟨wQ, bE⟩

def impl_arePegs_1.f (a0_0 : Int) (a0_1 : Int) : Option (Bool) := (impl_IsPeg.f a0_0 a0_1).bind fun t252 => (some (!t252))
set_option maxHeartbeats 8000000 in
set_option maxRecDepth 100000 in
theorem impl_arePegs_1.calls (a0_0 : Int) (a0_1 : Int) (r : Bool) (w : World) (h : impl_arePegs_1.f a0_0 a0_1 = some r) :
  Calls Try.prog 132 #[.agg #[.int .i64 a0_0, .int .i64 a0_1]] w fun e w' => e = .returned (.bool r) ∧ Below w.heap.size w w' := by
 have hu50 := Try.underlying50; have HB := aM (Below.refl w.heap.size w)
 unfold impl_arePegs_1.f at h; have H := h; clear h
 replace H := bS H; obtain ⟨t252, A2, H⟩ := H; obtain rfl := Option.some.inj H
 go_enter Try.func132, Try.ntmps132
 go_wp2_with (first | ((with_reducible refine gate_dst (N := 1) rfl ?_); refine bV 1 (cs := #[.int .i64 a0_0, .int .i64 a0_1]) (t := 50) rfl rfl (by first | (go_simp; done) | (go_simp; rfl)) ?_; intro gb251 hg w3 hbox hb; have BK251 := hbox; have GW251 := gZ HB hg; have GE251 := gZ HB hg; replace HB := tB HB hb; clear hb hbox hg; have hcz4_0 := vZ0 BK251; have hcz4_1 := vZ1 BK251; have hfz4_0 := kF BK251.out 0; have hfz4_1 := kF BK251.out 1) | ((with_reducible refine gC (f := 80) rfl ?_); refine goesL_ (some 4) rfl rfl Try.func80 kR rfl #[.agg #[.int .i64 a0_0, .int .i64 a0_1]] rfl sQ ?_; (with_reducible refine (impl_IsPeg.calls a0_0 a0_1 t252 _ A2.out).mono ?_); rintro e w5 ⟨rfl, hb⟩; refine ⟨_, rfl, ?_⟩; replace BK251 := bB BK251 hb; replace HB := tB HB hb; (try clear hb); (try clear hb2); (try clear hk); (try clear hi)))
 go_ret
 exact ⟨wQ, bE⟩

def slices_IndexFunc_impl_Peg_at_impl_arePegs_1.l0 : Nat → List (S_impl_Peg) → Int → Int → Option (Int)
 | 0, _, _, _ => none
 | k + 1, x0, x7, x8 => if x8 < x7 then (if 0 ≤ x8 then (if x8 < (x0.length : Int) then ((impl_arePegs_1.f ((rd_impl_Peg x0 x8).f0) ((rd_impl_Peg x0 x8).f1)).bind fun t254 => (if t254 = true then (some x8) else (slices_IndexFunc_impl_Peg_at_impl_arePegs_1.l0 k x0 x7 (wrap64 (x8 + 1))))) else (none)) else (none)) else (some (-1))
def slices_IndexFunc_impl_Peg_at_impl_arePegs_1.f (k : Nat) (l0 : List (S_impl_Peg)) : Option (Int) := slices_IndexFunc_impl_Peg_at_impl_arePegs_1.l0 k l0 (l0.length : Int) 0
theorem slices_IndexFunc_impl_Peg_at_impl_arePegs_1.mono_l : ∀ k, (∀ y0 y1 y2, LeO (slices_IndexFunc_impl_Peg_at_impl_arePegs_1.l0 k y0 y1 y2) (slices_IndexFunc_impl_Peg_at_impl_arePegs_1.l0 (k + 1) y0 y1 y2))
 | 0 => fun _ _ _ r h => by simp [slices_IndexFunc_impl_Peg_at_impl_arePegs_1.l0] at h
 | k + 1 => by
  have ih0 := slices_IndexFunc_impl_Peg_at_impl_arePegs_1.mono_l k
  ·intro y0 y1 y2
   unfold slices_IndexFunc_impl_Peg_at_impl_arePegs_1.l0
   repeat' first
   | (with_reducible exact ih0 _ _ _)
   | (with_reducible exact LeO.refl _)
   | (with_reducible exact LeO.none _)
   | (with_reducible refine LeO.ite ?_ ?_)
   | (with_reducible refine LeO.bind ?_ (fun _ => ?_))
   | exact ih0 _ _ _
   | exact LeO.none _
   | refine LeO.ite ?_ ?_
   | refine LeO.bind ?_ (fun _ => ?_)
theorem slices_IndexFunc_impl_Peg_at_impl_arePegs_1.mono : ∀ a0 k, LeO (slices_IndexFunc_impl_Peg_at_impl_arePegs_1.f k a0) (slices_IndexFunc_impl_Peg_at_impl_arePegs_1.f (k + 1) a0) := by
 intro a0 k
 have ih0 := slices_IndexFunc_impl_Peg_at_impl_arePegs_1.mono_l k
 unfold slices_IndexFunc_impl_Peg_at_impl_arePegs_1.f
 repeat' first | (with_reducible exact ih0 _ _ _) | (with_reducible exact LeO.refl _) | (with_reducible exact LeO.none _) | (with_reducible refine LeO.ite ?_ ?_) | (with_reducible refine LeO.bind ?_ (fun _ => ?_)) | exact ih0 _ _ _ | exact LeO.none _ | refine LeO.ite ?_ ?_ | refine LeO.bind ?_ (fun _ => ?_)
set_option maxHeartbeats 8000000 in
set_option maxRecDepth 100000 in
theorem slices_IndexFunc_impl_Peg_at_impl_arePegs_1.calls (k : Nat) (A0 : Option Addr) (c0 : Nat) (l0 : List (S_impl_Peg)) (r : Int) (w : World) (hr0 : Kd.C kd_impl_Peg w A0 l0.length l0) (hc0 : l0.length ≤ c0) (h : slices_IndexFunc_impl_Peg_at_impl_arePegs_1.f k l0 = some r) :
  Calls Try.prog 145 #[.slice A0 l0.length c0, .func (.func 132) #[] #[]] w fun e w' => e = .returned (.int .i64 r) ∧ Below w.heap.size w w' := by
 have hu50 := Try.underlying50; have HR0 := aM hr0; have HC0 := aM hc0; clear hr0 hc0; have HB := aM (Below.refl w.heap.size w)
 unfold slices_IndexFunc_impl_Peg_at_impl_arePegs_1.f at h; have H := h; clear h
 have H' := aM H; clear H
 go_enter Try.func145, Try.ntmps145
 go_wp2
 go_loopg [8] k (fun kq v8 w' => ∃ (x8_1 : Int), v8 = .int .i64 x8_1 ∧ Aside0 (slices_IndexFunc_impl_Peg_at_impl_arePegs_1.l0 kq l0 (l0.length : Int) x8_1 = some r) ∧ Aside0 (kq ≤ k) ∧ Aside0 (Below w.heap.size w w'))
 case atStart => exact ⟨(0), eQ, H', ⟨Nat.le_refl _⟩, ⟨bQ⟩⟩
 case round =>
  clear H'; obtain ⟨x8_1, rfl, HA, HK1, HB⟩ := hrel
  cases gk with
  | zero => exact absurd HA.out (by simp [slices_IndexFunc_impl_Peg_at_impl_arePegs_1.l0])
  | succ k1 =>
   have H := HA.out; clear HA
   simp only [slices_IndexFunc_impl_Peg_at_impl_arePegs_1.l0] at H
   by_cases c2 : x8_1 < (l0.length : Int)
   ·rw [if_pos c2] at H; have c2b0 := dE c2; clear c2; replace H := iD H; obtain ⟨c3b0, H⟩ := H; replace H := iD H; obtain ⟨c4b0, H⟩ := H; replace H := bS H; obtain ⟨t254, A5, H⟩ := H
    by_cases c6 : t254 = true
    ·subst c6; replace H := iT H; obtain rfl := Option.some.inj H; have p253 : 0 ≤ (x8_1 : Int) := dT aQ; have q253 : x8_1 < (l0.length : Int) := dT aQ; obtain ⟨ad253, e253, hx253_0, hx253_1⟩ := at_impl_Peg HR0.out x8_1 p253 q253
     cases e253
     replace hx253_0 := hC HB hx253_0; replace hx253_1 := hC HB hx253_1; replace p253 := eq_true p253; replace q253 := eq_true q253
     go_wp2_with (first | ((with_reducible refine gate_tmp rfl ?_); refine goesLT_ (some 16) rfl rfl Try.func132 kR rfl #[.agg #[.int .i64 ((rd_impl_Peg l0 x8_1).f0), .int .i64 ((rd_impl_Peg l0 x8_1).f1)]] rfl (by first | rfl | (simp [Act.eval]; done)) sQ ?_; (with_reducible refine (impl_arePegs_1.calls ((rd_impl_Peg l0 x8_1).f0) ((rd_impl_Peg l0 x8_1).f1) true _ A5.out).mono ?_); rintro e w7 ⟨rfl, hb⟩; refine ⟨_, rfl, ?_⟩; replace HB := tB HB hb; (try clear hb); (try clear hb2); (try clear hk); (try clear hi)))
     go_ret
     exact ⟨wQ, bQ⟩
    ·replace c6 := Bool.eq_false_iff.mpr c6; subst c6; replace H := iF H; have H' := aM H; clear H; have p253 : 0 ≤ (x8_1 : Int) := dT aQ; have q253 : x8_1 < (l0.length : Int) := dT aQ; obtain ⟨ad253, e253, hx253_0, hx253_1⟩ := at_impl_Peg HR0.out x8_1 p253 q253
     cases e253
     replace hx253_0 := hC HB hx253_0; replace hx253_1 := hC HB hx253_1; replace p253 := eq_true p253; replace q253 := eq_true q253
     go_wp2_with (first | ((with_reducible refine gate_tmp rfl ?_); refine goesLT_ (some 16) rfl rfl Try.func132 kR rfl #[.agg #[.int .i64 ((rd_impl_Peg l0 x8_1).f0), .int .i64 ((rd_impl_Peg l0 x8_1).f1)]] rfl (by first | rfl | (simp [Act.eval]; done)) sQ ?_; (with_reducible refine (impl_arePegs_1.calls ((rd_impl_Peg l0 x8_1).f0) ((rd_impl_Peg l0 x8_1).f1) false _ A5.out).mono ?_); rintro e w8 ⟨rfl, hb⟩; refine ⟨_, rfl, ?_⟩; replace HB := tB HB hb; (try clear hb); (try clear hb2); (try clear hk); (try clear hi)))
     go_roundg k1
     case measure => have := HK1.out; omega
     case rel => exact ⟨(wrap64 (x8_1 + 1)), eQ, H', ⟨by have := HK1.out; omega⟩, ⟨bQ⟩⟩
   ·rw [if_neg c2] at H; have c2b0 := decide_eq_false c2; clear c2; obtain rfl := Option.some.inj H; go_wp2
    go_ret
    exact ⟨wQ, bQ⟩

def slices_ContainsFunc_impl_Peg_at_impl_arePegs_1.f (k : Nat) (l0 : List (S_impl_Peg)) : Option (Bool) := (slices_IndexFunc_impl_Peg_at_impl_arePegs_1.f k l0).bind fun t255 => (some (decide (t255 ≥ 0)))
theorem slices_ContainsFunc_impl_Peg_at_impl_arePegs_1.mono : ∀ a0 k, LeO (slices_ContainsFunc_impl_Peg_at_impl_arePegs_1.f k a0) (slices_ContainsFunc_impl_Peg_at_impl_arePegs_1.f (k + 1) a0) := by
 intro a0 k
 unfold slices_ContainsFunc_impl_Peg_at_impl_arePegs_1.f
 repeat' first | (with_reducible exact slices_IndexFunc_impl_Peg_at_impl_arePegs_1.mono _ _) | (with_reducible exact LeO.refl _) | (with_reducible exact LeO.none _) | (with_reducible refine LeO.ite ?_ ?_) | (with_reducible refine LeO.bind ?_ (fun _ => ?_)) | exact slices_IndexFunc_impl_Peg_at_impl_arePegs_1.mono _ _ | exact LeO.none _ | refine LeO.ite ?_ ?_ | refine LeO.bind ?_ (fun _ => ?_)
set_option maxHeartbeats 8000000 in
set_option maxRecDepth 100000 in
theorem slices_ContainsFunc_impl_Peg_at_impl_arePegs_1.calls (k : Nat) (A0 : Option Addr) (c0 : Nat) (l0 : List (S_impl_Peg)) (r : Bool) (w : World) (hr0 : Kd.C kd_impl_Peg w A0 l0.length l0) (hc0 : l0.length ≤ c0) (h : slices_ContainsFunc_impl_Peg_at_impl_arePegs_1.f k l0 = some r) :
  Calls Try.prog 131 #[.slice A0 l0.length c0, .func (.func 132) #[] #[]] w fun e w' => e = .returned (.bool r) ∧ Below w.heap.size w w' := by
 have HR0 := aM hr0; have HC0 := aM hc0; clear hr0 hc0; have HB := aM (Below.refl w.heap.size w)
 unfold slices_ContainsFunc_impl_Peg_at_impl_arePegs_1.f at h; have H := h; clear h
 replace H := bS H; obtain ⟨t255, A2, H⟩ := H; obtain rfl := Option.some.inj H
 go_enter Try.func131, Try.ntmps131
 go_wp2_with (first | ((with_reducible refine gC (f := 145) rfl ?_); refine goesL_ (some 7) rfl rfl Try.func145 kR rfl #[.slice A0 l0.length c0, .func (.func 132) #[] #[]] rfl sQ ?_; (with_reducible refine (slices_IndexFunc_impl_Peg_at_impl_arePegs_1.calls k _ _ l0 t255 _ ?side1 ?side2 A2.out).mono ?_); (case side1 => repeat (first | exact HR0.out | (with_reducible refine cA ?_ _) | (with_reducible refine cN ?_ _) | (with_reducible refine cD ?_))); (case side2 => exact HC0.out); rintro e w3 ⟨rfl, hb⟩; refine ⟨_, rfl, ?_⟩; replace HB := tB HB hb; (try clear hb); (try clear hb2); (try clear hk); (try clear hi)))
 go_ret
 exact ⟨wQ, bQ⟩

def impl_arePegs.f (k : Nat) (l0 : List (S_impl_Peg)) : Option (Bool) := (slices_ContainsFunc_impl_Peg_at_impl_arePegs_1.f k l0).bind fun t256 => (some (!t256))
theorem impl_arePegs.mono : ∀ a0 k, LeO (impl_arePegs.f k a0) (impl_arePegs.f (k + 1) a0) := by
 intro a0 k
 unfold impl_arePegs.f
 repeat' first | (with_reducible exact slices_ContainsFunc_impl_Peg_at_impl_arePegs_1.mono _ _) | (with_reducible exact LeO.refl _) | (with_reducible exact LeO.none _) | (with_reducible refine LeO.ite ?_ ?_) | (with_reducible refine LeO.bind ?_ (fun _ => ?_)) | exact slices_ContainsFunc_impl_Peg_at_impl_arePegs_1.mono _ _ | exact LeO.none _ | refine LeO.ite ?_ ?_ | refine LeO.bind ?_ (fun _ => ?_)
set_option maxHeartbeats 8000000 in
set_option maxRecDepth 100000 in
theorem impl_arePegs.calls (k : Nat) (A0 : Option Addr) (c0 : Nat) (l0 : List (S_impl_Peg)) (r : Bool) (w : World) (hr0 : Kd.C kd_impl_Peg w A0 l0.length l0) (hc0 : l0.length ≤ c0) (h : impl_arePegs.f k l0 = some r) :
  Calls Try.prog 90 #[.slice A0 l0.length c0] w fun e w' => e = .returned (.bool r) ∧ Below w.heap.size w w' := by
 have HR0 := aM hr0; have HC0 := aM hc0; clear hr0 hc0; have HB := aM (Below.refl w.heap.size w)
 unfold impl_arePegs.f at h; have H := h; clear h
 replace H := bS H; obtain ⟨t256, A2, H⟩ := H; obtain rfl := Option.some.inj H
 go_enter Try.func90, Try.ntmps90
 go_wp2_with (first | ((with_reducible refine gC (f := 131) rfl ?_); refine goesL_ (some 4) rfl rfl Try.func131 kR rfl #[.slice A0 l0.length c0, .func (.func 132) #[] #[]] rfl sQ ?_; (with_reducible refine (slices_ContainsFunc_impl_Peg_at_impl_arePegs_1.calls k _ _ l0 t256 _ ?side1 ?side2 A2.out).mono ?_); (case side1 => repeat (first | exact HR0.out | (with_reducible refine cA ?_ _) | (with_reducible refine cN ?_ _) | (with_reducible refine cD ?_))); (case side2 => exact HC0.out); rintro e w3 ⟨rfl, hb⟩; refine ⟨_, rfl, ?_⟩; replace HB := tB HB hb; (try clear hb); (try clear hb2); (try clear hk); (try clear hi)))
 go_ret
 exact ⟨wQ, bQ⟩

def impl_at.f (l0 : List (S_impl_Peg)) (a1 : Int) : Option (Int × Int) := if (l0.length : Int) = 0 then (none) else (if 0 ≤ (Int.tmod (wrap64 ((Int.tmod a1 (l0.length : Int)) + (l0.length : Int))) (l0.length : Int)) then (if (Int.tmod (wrap64 ((Int.tmod a1 (l0.length : Int)) + (l0.length : Int))) (l0.length : Int)) < (l0.length : Int) then (some ((rd_impl_Peg l0 (Int.tmod (wrap64 ((Int.tmod a1 (l0.length : Int)) + (l0.length : Int))) (l0.length : Int))).f0, (rd_impl_Peg l0 (Int.tmod (wrap64 ((Int.tmod a1 (l0.length : Int)) + (l0.length : Int))) (l0.length : Int))).f1)) else (none)) else (none))
set_option maxHeartbeats 8000000 in
set_option maxRecDepth 100000 in
theorem impl_at.calls (A0 : Option Addr) (c0 : Nat) (l0 : List (S_impl_Peg)) (a1 : Int) (r1 : Int) (r2 : Int) (w : World) (hr0 : Kd.C kd_impl_Peg w A0 l0.length l0) (hc0 : l0.length ≤ c0) (h : impl_at.f l0 a1 = some (r1, r2)) :
  Calls Try.prog 106 #[.slice A0 l0.length c0, .int .i64 a1] w fun e w' => e = .returned (.agg #[.int .i64 r1, .int .i64 r2]) ∧ Below w.heap.size w w' := by
 have hu50 := Try.underlying50; have HR0 := aM hr0; have HC0 := aM hc0; clear hr0 hc0; have HB := aM (Below.refl w.heap.size w)
 unfold impl_at.f at h; have H := h; clear h
 replace H := iM H; obtain ⟨c3, H⟩ := H; have c3b0 : ((l0.length : Int) == 0) = false := beq_eq_false_iff_ne.mpr c3; have c3b1 : ((l0.length : Int) != 0) = true := bne_iff_ne.mpr c3; have c3b2 : ¬ (l0 = []) := fun h_ => c3 (by rw [h_]; rfl)
 obtain ⟨ji4, hji4⟩ : ∃ j_ : Int, (Int.tmod (wrap64 ((Int.tmod a1 (l0.length : Int)) + (l0.length : Int))) (l0.length : Int)) = j_ := ⟨_, rfl⟩
 (first | rw [hji4] at H | simp only [hji4] at H)
 replace H := iD H; obtain ⟨c5b0, H⟩ := H; replace H := iD H; obtain ⟨c6b0, H⟩ := H
 simp only [Option.some.injEq, Prod.mk.injEq] at H
 obtain ⟨rfl, rfl⟩ := H
 go_enter Try.func106, Try.ntmps106
 go_wp2_with (first | ((with_reducible refine gate_dst (N := 4) rfl ?_); refine bV 4 (cs := #[.int .i64 0, .int .i64 0]) (t := 50) rfl rfl (by first | (go_simp; done) | (go_simp; rfl)) ?_; intro gb257 hg w7 hbox hb; have BK257 := hbox; have GW257 := gZ HB hg; have GE257 := gZ HB hg; replace HB := tB HB hb; clear hb hbox hg; have p258 : 0 ≤ ((ji4) : Int) := dT aQ; have q258 : (ji4) < (l0.length : Int) := dT aQ; obtain ⟨ad258, e258, hx258_0, hx258_1⟩ := at_impl_Peg HR0.out (ji4) p258 q258; cases e258; replace hx258_0 := hC HB hx258_0; replace hx258_1 := hC HB hx258_1; replace p258 := eq_true p258; replace q258 := eq_true q258; have hcz8_0 := vZ0 BK257; have hcz8_1 := vZ1 BK257; have hfz8_0 := kF BK257.out 0; have hfz8_1 := kF BK257.out 1))
 refine bodyPost_ret (results_cell_row rfl _ _ gb257 50 #[.int .i64 ((rd_impl_Peg l0 (ji4)).f0), .int .i64 ((rd_impl_Peg l0 (ji4)).f1)] (0, 0) _ rfl (fQ BK257) Try.underlying50 rfl kR) rfl ?_
 exact ⟨by first | rfl | (simp [errW_none, errW_some] <;> rfl) | (simp only [← hji4]; first | rfl | (simp [errW_none, errW_some] <;> rfl)) | (simp [*, errW_none, errW_some] <;> rfl), bE⟩
def impl_Peg_less.f (a0_0 : Int) (a0_1 : Int) (a1_0 : Int) (a1_1 : Int) : Option (Int × Int) := some (wrap64 (a0_0 - a1_0), wrap64 (a0_1 - a1_1))
set_option maxHeartbeats 8000000 in
set_option maxRecDepth 100000 in
theorem impl_Peg_less.calls (a0_0 : Int) (a0_1 : Int) (a1_0 : Int) (a1_1 : Int) (r1 : Int) (r2 : Int) (w : World) (h : impl_Peg_less.f a0_0 a0_1 a1_0 a1_1 = some (r1, r2)) :
  Calls Try.prog 65 #[.agg #[.int .i64 a0_0, .int .i64 a0_1], .agg #[.int .i64 a1_0, .int .i64 a1_1]] w fun e w' => e = .returned (.agg #[.int .i64 r1, .int .i64 r2]) ∧ Below w.heap.size w w' := by
 have hu50 := Try.underlying50; have HB := aM (Below.refl w.heap.size w)
 unfold impl_Peg_less.f at h; have H := h; clear h
 simp only [Option.some.injEq, Prod.mk.injEq] at H
 obtain ⟨rfl, rfl⟩ := H
 go_enter Try.func65, Try.ntmps65
 go_wp2_with (first | ((with_reducible refine gate_dst (N := 2) rfl ?_); refine bV 2 (cs := #[.int .i64 a0_0, .int .i64 a0_1]) (t := 50) rfl rfl (by first | (go_simp; done) | (go_simp; rfl)) ?_; intro gb259 hg w3 hbox hb; have BK259 := hbox; have GW259 := gZ HB hg; have GE259 := gZ HB hg; replace HB := tB HB hb; clear hb hbox hg) | ((with_reducible refine gate_dst (N := 3) rfl ?_); refine bV 3 (cs := #[.int .i64 a1_0, .int .i64 a1_1]) (t := 50) rfl rfl (by first | (go_simp; done) | (go_simp; rfl)) ?_; intro gb260 hg w4 hbox hb; have BK260 := hbox; have GW260 := gZ HB hg; have GE260 := gZ HB hg; have NB259_260 := nG BK259 hg; have NB260_259 := nH BK259 hg; replace BK259 := bB BK259 hb; replace HB := tB HB hb; clear hb hbox hg) | ((with_reducible refine gate_dst (N := 4) rfl ?_); refine bV 4 (cs := #[.int .i64 0, .int .i64 0]) (t := 50) rfl rfl (by first | (go_simp; done) | (go_simp; rfl)) ?_; intro gb261 hg w5 hbox hb; have BK261 := hbox; have GW261 := gZ HB hg; have GE261 := gZ HB hg; have NB259_261 := nG BK259 hg; have NB261_259 := nH BK259 hg; have NB260_261 := nG BK260 hg; have NB261_260 := nH BK260 hg; replace BK259 := bB BK259 hb; replace BK260 := bB BK260 hb; replace HB := tB HB hb; clear hb hbox hg; have hnb6 := NB259_260.out; have hnc6 := NB260_259.out; have hnb7 := NB259_261.out; have hnc7 := NB261_259.out; have hcz8_0 := vZ0 BK259; have hcz8_1 := vZ1 BK259; have hfz8_0 := kF BK259.out 0; have hfz8_1 := kF BK259.out 1; have hnb9 := NB260_261.out; have hnc9 := NB261_260.out; have hcz10_0 := vZ0 BK260; have hcz10_1 := vZ1 BK260; have hfz10_0 := kF BK260.out 0; have hfz10_1 := kF BK260.out 1; have hcz11_0 := vZ0 BK261; have hcz11_1 := vZ1 BK261; have hfz11_0 := kF BK261.out 0; have hfz11_1 := kF BK261.out 1))
 refine bodyPost_ret (results_cell_row rfl _ _ gb261 50 #[.int .i64 (wrap64 (a0_0 - a1_0)), .int .i64 (wrap64 (a0_1 - a1_1))] (0, 0) _ rfl (fQ BK261) Try.underlying50 rfl kR) rfl ?_
 exact ⟨wQ, bE⟩

def impl_cross.f (a0_0 : Int) (a0_1 : Int) (a1_0 : Int) (a1_1 : Int) : Option (Int) := some (wrap64 ((wrap64 (a0_0 * a1_1)) - (wrap64 (a0_1 * a1_0))))
set_option maxHeartbeats 8000000 in
set_option maxRecDepth 100000 in
theorem impl_cross.calls (a0_0 : Int) (a0_1 : Int) (a1_0 : Int) (a1_1 : Int) (r : Int) (w : World) (h : impl_cross.f a0_0 a0_1 a1_0 a1_1 = some r) :
  Calls Try.prog 108 #[.agg #[.int .i64 a0_0, .int .i64 a0_1], .agg #[.int .i64 a1_0, .int .i64 a1_1]] w fun e w' => e = .returned (.int .i64 r) ∧ Below w.heap.size w w' := by
 have hu50 := Try.underlying50; have HB := aM (Below.refl w.heap.size w)
 unfold impl_cross.f at h; have H := h; clear h
 obtain rfl := Option.some.inj H
 go_enter Try.func108, Try.ntmps108
 go_wp2_with (first | ((with_reducible refine gate_dst (N := 2) rfl ?_); refine bV 2 (cs := #[.int .i64 a0_0, .int .i64 a0_1]) (t := 50) rfl rfl (by first | (go_simp; done) | (go_simp; rfl)) ?_; intro gb262 hg w3 hbox hb; have BK262 := hbox; have GW262 := gZ HB hg; have GE262 := gZ HB hg; replace HB := tB HB hb; clear hb hbox hg) | ((with_reducible refine gate_dst (N := 3) rfl ?_); refine bV 3 (cs := #[.int .i64 a1_0, .int .i64 a1_1]) (t := 50) rfl rfl (by first | (go_simp; done) | (go_simp; rfl)) ?_; intro gb263 hg w4 hbox hb; have BK263 := hbox; have GW263 := gZ HB hg; have GE263 := gZ HB hg; have NB262_263 := nG BK262 hg; have NB263_262 := nH BK262 hg; replace BK262 := bB BK262 hb; replace HB := tB HB hb; clear hb hbox hg; have hnb5 := NB262_263.out; have hnc5 := NB263_262.out; have hcz6_0 := vZ0 BK262; have hcz6_1 := vZ1 BK262; have hfz6_0 := kF BK262.out 0; have hfz6_1 := kF BK262.out 1; have hcz7_0 := vZ0 BK263; have hcz7_1 := vZ1 BK263; have hfz7_0 := kF BK263.out 0; have hfz7_1 := kF BK263.out 1))
 go_ret
 exact ⟨wQ, bE⟩

def impl_turn.f (a0_0 : Int) (a0_1 : Int) (a1_0 : Int) (a1_1 : Int) (a2_0 : Int) (a2_1 : Int) : Option (Int) := (impl_Peg_less.f a1_0 a1_1 a0_0 a0_1).bind fun bt267 => ((impl_Peg_less.f a2_0 a2_1 a0_0 a0_1).bind fun bt269 => ((impl_cross.f bt267.1 bt267.2 bt269.1 bt269.2).bind fun t271 => (some t271)))
def impl_turn.T1 : Bool × List (List Nat × List Nat) := (true, [([], []), ([], []), ([0, 1], [0, 1]), ([], []), ([], []), ([3, 4, 2], [3, 4]), ([2, 5, 5], [2, 5]), ([6, 6, 0, 1, 2, 3, 4, 5, 6], [6])])
def impl_turn.B1 : List Nat := [0, 0, 3, 0, 0, 31, 63, 127]
theorem impl_turn.tab1 : rtab .any (opsOf Try.f119 1) = impl_turn.T1 := by kernel_rfl
theorem impl_turn.bits1 : waitsOk impl_turn.T1.2 impl_turn.B1 = true := by kernel_rfl
set_option maxHeartbeats 8000000 in
set_option maxRecDepth 100000 in
theorem impl_turn.calls (a0_0 : Int) (a0_1 : Int) (a1_0 : Int) (a1_1 : Int) (a2_0 : Int) (a2_1 : Int) (r : Int) (w : World) (h : impl_turn.f a0_0 a0_1 a1_0 a1_1 a2_0 a2_1 = some r) :
  Calls Try.prog 119 #[.agg #[.int .i64 a0_0, .int .i64 a0_1], .agg #[.int .i64 a1_0, .int .i64 a1_1], .agg #[.int .i64 a2_0, .int .i64 a2_1]] w fun e w' => e = .returned (.int .i64 r) ∧ Below w.heap.size w w' := by
 have hu50 := Try.underlying50; have HB := aM (Below.refl w.heap.size w)
 unfold impl_turn.f at h; have H := h; clear h
 replace H := bS H; obtain ⟨⟨t267, t268⟩, A4, H⟩ := H; replace H := bS H; obtain ⟨⟨t269, t270⟩, A5, H⟩ := H; replace H := bS H; obtain ⟨t271, A6, H⟩ := H; obtain rfl := Option.some.inj H
 go_enter Try.func119, Try.ntmps119
 try go_wp2_with (first | ((with_reducible refine gate_dst (N := 3) rfl ?_); refine bV 3 (cs := #[.int .i64 a0_0, .int .i64 a0_1]) (t := 50) rfl rfl (by first | (go_simp; done) | (go_simp; rfl)) ?_; intro gb264 hg w7 hbox hb; have BK264 := hbox; have GW264 := gZ HB hg; have GE264 := gZ HB hg; replace HB := tB HB hb; clear hb hbox hg) | ((with_reducible refine gate_dst (N := 4) rfl ?_); refine bV 4 (cs := #[.int .i64 a1_0, .int .i64 a1_1]) (t := 50) rfl rfl (by first | (go_simp; done) | (go_simp; rfl)) ?_; intro gb265 hg w8 hbox hb; have BK265 := hbox; have GW265 := gZ HB hg; have GE265 := gZ HB hg; have NB264_265 := nG BK264 hg; have NB265_264 := nH BK264 hg; replace BK264 := bB BK264 hb; replace HB := tB HB hb; clear hb hbox hg) | ((with_reducible refine gate_dst (N := 5) rfl ?_); refine bV 5 (cs := #[.int .i64 a2_0, .int .i64 a2_1]) (t := 50) rfl rfl (by first | (go_simp; done) | (go_simp; rfl)) ?_; intro gb266 hg w9 hbox hb; have BK266 := hbox; have GW266 := gZ HB hg; have GE266 := gZ HB hg; have NB264_266 := nG BK264 hg; have NB266_264 := nH BK264 hg; have NB265_266 := nG BK265 hg; have NB266_265 := nH BK265 hg; replace BK264 := bB BK264 hb; replace BK265 := bB BK265 hb; replace HB := tB HB hb; clear hb hbox hg))
 replace BK264 := aM (kD BK264.out); replace BK265 := aM (kD BK265.out); replace BK266 := aM (kD BK266.out); replace HB := aM (pD HB.out)
 refine start_ (n := 8) (S := fun w' => w'.cell? ⟨gb265, 0, none⟩ = some (.int .i64 a1_0) ∧ w'.cell? ⟨gb265, 1, none⟩ = some (.int .i64 a1_1) ∧ w'.cell? ⟨gb264, 0, none⟩ = some (.int .i64 a0_0) ∧ w'.cell? ⟨gb264, 1, none⟩ = some (.int .i64 a0_1) ∧ w'.cell? ⟨gb266, 0, none⟩ = some (.int .i64 a2_0) ∧ w'.cell? ⟨gb266, 1, none⟩ = some (.int .i64 a2_1)) (ds := []) (bA 8 0) kR rfl kR ⟨vZ0 BK265, vZ1 BK265, vZ0 BK264, vZ1 BK264, vZ0 BK266, vZ1 BK266⟩ (fun hHeld => ?_); refine with_tabW impl_turn.tab1 impl_turn.bits1 (fun HT_ HW_ => ?_)
 generalize w9.drew = w10 at BK264 BK265 BK266 HB hHeld ⊢
 refine tU 0 7 (bA 8 1) HT_ HW_ hHeld ?_ (hy := Or.inl ⟨by rfl, by rintro w' ⟨s0, s1, s2, s3, s4, s5⟩; go_simp; with_reducible rfl⟩)
 refine tU 1 8 (bA 8 3) HT_ HW_ hHeld ?_ (hy := Or.inl ⟨by rfl, by rintro w' ⟨s0, s1, s2, s3, s4, s5⟩; go_simp; with_reducible rfl⟩)
 refine tU 3 10 (bA 8 11) HT_ HW_ hHeld ?_ (hy := Or.inl ⟨by rfl, by rintro w' ⟨s0, s1, s2, s3, s4, s5⟩; go_simp; with_reducible rfl⟩)
 refine tU 4 11 (bA 8 27) HT_ HW_ hHeld ?_ (hy := Or.inl ⟨by rfl, by rintro w' ⟨s0, s1, s2, s3, s4, s5⟩; go_simp; with_reducible rfl⟩)
 refine oU 2 9 (bA 8 31) HT_ (fun K hK => ?_)
 refine goes_ Try.func65 kR rfl #[.agg #[.int .i64 a1_0, .int .i64 a1_1], .agg #[.int .i64 a0_0, .int .i64 a0_1]] (by rfl) rfl rfl sQ ?_
 with_reducible refine (impl_Peg_less.calls a1_0 a1_1 a0_0 a0_1 t267 t268 _ A4.out).mono ?_
 rintro e w11 ⟨rfl, hb⟩; refine ⟨_, rfl, ?_⟩; replace BK264 := bB BK264 hb; replace BK265 := bB BK265 hb; replace BK266 := bB BK266 hb; replace HB := tB HB hb; (try clear hb); (try clear hb2); (try clear hk); (try clear hi)
 refine hK.out _ _ ⟨vZ0 BK265, vZ1 BK265, vZ0 BK264, vZ1 BK264, vZ0 BK266, vZ1 BK266⟩ (fun hHeld => ?_)
 clear hK K
 refine nU ?_
 refine oU 5 12 (bA 8 63) HT_ (fun K hK => ?_)
 refine goes_ Try.func65 kR rfl #[.agg #[.int .i64 a2_0, .int .i64 a2_1], .agg #[.int .i64 a0_0, .int .i64 a0_1]] (by rfl) rfl rfl sQ ?_
 with_reducible refine (impl_Peg_less.calls a2_0 a2_1 a0_0 a0_1 t269 t270 _ A5.out).mono ?_
 rintro e w12 ⟨rfl, hb⟩; refine ⟨_, rfl, ?_⟩; replace BK264 := bB BK264 hb; replace BK265 := bB BK265 hb; replace BK266 := bB BK266 hb; replace HB := tB HB hb; (try clear hb); (try clear hb2); (try clear hk); (try clear hi)
 refine hK.out _ _ ⟨vZ0 BK265, vZ1 BK265, vZ0 BK264, vZ1 BK264, vZ0 BK266, vZ1 BK266⟩ (fun hHeld => ?_)
 clear hK K
 refine nU ?_
 refine oU 6 13 (bA 8 127) HT_ (fun K hK => ?_)
 refine goes_ Try.func108 kR rfl #[.agg #[.int .i64 t267, .int .i64 t268], .agg #[.int .i64 t269, .int .i64 t270]] (by rfl) rfl rfl sQ ?_
 with_reducible refine (impl_cross.calls t267 t268 t269 t270 t271 _ A6.out).mono ?_
 rintro e w13 ⟨rfl, hb⟩; refine ⟨_, rfl, ?_⟩; replace BK264 := bB BK264 hb; replace BK265 := bB BK265 hb; replace BK266 := bB BK266 hb; replace HB := tB HB hb; (try clear hb); (try clear hb2); (try clear hk); (try clear hi)
 refine hK.out _ _ ⟨vZ0 BK265, vZ1 BK265, vZ0 BK264, vZ1 BK264, vZ0 BK266, vZ1 BK266⟩ (fun hHeld => ?_)
 clear hK K
 refine nU ?_
 refine pU 7 6 (bA 8 255) HT_ ?_
 refine done_ (done_of HT_.out kR) ?_
 try go_wp2
 go_ret
 exact ⟨wQ, bE⟩

end Go.Proofs.Ytfihohongkfibaa.X
