-- thin
-- short
-- compact
import Derived.Test.YtfihohongkfibaaXA
import Derived.Test.YtfihohongkfibaaX0
import Derived.Test.YtfihohongkfibaaX10
import Derived.Test.YtfihohongkfibaaX22
namespace Go.Proofs.Ytfihohongkfibaa.X
open Go.RowKit Go.Proofs.Ytfihohongkfibaa.XW Go.Proofs.YtfihohongkfibaaW.PrintWords Go.Proofs.YtfihohongkfibaaW.PrintLast Go.Proofs.YtfihohongkfibaaW.PrintMore
attribute [local go_sem] max2_int min2_int max_two min_two max_three min_three max_four min_four   -- for this text's walks alone
set_option linter.unusedVariables false
set_option linter.unusedSimpArgs false

mutual
def impl_KindsOfArea.l0 : Nat → Int → List (List Int) → Int → Option ((List (List Int)) × Bool)
 | 0, _, _, _ => none
 | k + 1, x0, x4, x5 => if x5 ≤ x0 then (impl_KindsOfArea.l1 k x0 x4 x5 0) else (some (x4, true))
def impl_KindsOfArea.l1 : Nat → Int → List (List Int) → Int → Int → Option ((List (List Int)) × Bool)
 | 0, _, _, _, _ => none
 | k + 1, x0, x4, x5, x6 => if x5 = 0 then (none) else (if (Int.tmod x0 x5) = 0 then (impl_KindsOfArea.j2 k x0 x4 x5 x6 (decide (x6 < (wrap64 (Int.tdiv x0 x5))))) else (impl_KindsOfArea.j2 k x0 x4 x5 x6 false))
def impl_KindsOfArea.j2 : Nat → Int → List (List Int) → Int → Int → Bool → Option ((List (List Int)) × Bool)
 | 0, _, _, _, _, _ => none
 | k + 1, x0, x4, x5, x6, x27 => if x27 = true then (if x5 = 0 then (none) else ((some (([x5, x6, wrap64 (Int.tdiv x0 x5)] : List Int) : List Int)).bind fun y528 => ((impl_triangle.f x5 x6 (wrap64 (Int.tdiv x0 x5))).bind fun t531 => ((impl_kindOf.f k t531).bind fun t534 => ((slices_Equal_int.f k t534 y528).bind fun t537 => (if t537 = true then (if x4.length < 5864062014805 then (impl_KindsOfArea.l1 k x0 (x4 ++ [y528]) x5 (wrap64 (x6 + 1))) else (none)) else (impl_KindsOfArea.l1 k x0 x4 x5 (wrap64 (x6 + 1))))))))) else (impl_KindsOfArea.l0 k x0 x4 (wrap64 (x5 + 1)))
end
def impl_KindsOfArea.f (k : Nat) (a0 : Int) : Option ((List (List Int)) × Bool) := (impl_within.f a0 1 60).bind fun t524 => (if t524 = true then (impl_KindsOfArea.l0 k a0 (([] : List (List Int))) 1) else (some (([] : List (List Int)), false)))
theorem impl_KindsOfArea.mono_l : ∀ k, (∀ y0 y1 y2, LeO (impl_KindsOfArea.l0 k y0 y1 y2) (impl_KindsOfArea.l0 (k + 1) y0 y1 y2)) ∧ (∀ y0 y1 y2 y3, LeO (impl_KindsOfArea.l1 k y0 y1 y2 y3) (impl_KindsOfArea.l1 (k + 1) y0 y1 y2 y3)) ∧ (∀ y0 y1 y2 y3 y4, LeO (impl_KindsOfArea.j2 k y0 y1 y2 y3 y4) (impl_KindsOfArea.j2 (k + 1) y0 y1 y2 y3 y4))
 | 0 => ⟨fun _ _ _ r h => by simp [impl_KindsOfArea.l0] at h, fun _ _ _ _ r h => by simp [impl_KindsOfArea.l1] at h, fun _ _ _ _ _ r h => by simp [impl_KindsOfArea.j2] at h⟩
 | k + 1 => by
  obtain ⟨ih0, ih1, ih2⟩ := impl_KindsOfArea.mono_l k
  refine ⟨?_, ?_, ?_⟩ <;> intros <;> (first | unfold impl_KindsOfArea.l0 | unfold impl_KindsOfArea.l1 | unfold impl_KindsOfArea.j2) <;> repeat' first | (with_reducible exact ih0 _ _ _) | (with_reducible exact ih1 _ _ _ _) | (with_reducible exact ih2 _ _ _ _ _) | (with_reducible exact impl_kindOf.mono _ _) | (with_reducible exact slices_Equal_int.mono _ _ _) | (with_reducible exact LeO.refl _) | (with_reducible exact LeO.none _) | (with_reducible refine LeO.ite ?_ ?_) | (with_reducible refine LeO.bind ?_ (fun _ => ?_)) | exact ih0 _ _ _ | exact ih1 _ _ _ _ | exact ih2 _ _ _ _ _ | exact impl_kindOf.mono _ _ | exact slices_Equal_int.mono _ _ _ | exact LeO.none _ | refine LeO.ite ?_ ?_ | refine LeO.bind ?_ (fun _ => ?_)
theorem impl_KindsOfArea.mono : ∀ a0 k, LeO (impl_KindsOfArea.f k a0) (impl_KindsOfArea.f (k + 1) a0) := by
 intro a0 k
 obtain ⟨ih0, ih1, ih2⟩ := impl_KindsOfArea.mono_l k
 unfold impl_KindsOfArea.f
 repeat' first | (with_reducible exact ih0 _ _ _) | (with_reducible exact ih1 _ _ _ _) | (with_reducible exact ih2 _ _ _ _ _) | (with_reducible exact impl_kindOf.mono _ _) | (with_reducible exact slices_Equal_int.mono _ _ _) | (with_reducible exact LeO.refl _) | (with_reducible exact LeO.none _) | (with_reducible refine LeO.ite ?_ ?_) | (with_reducible refine LeO.bind ?_ (fun _ => ?_)) | exact ih0 _ _ _ | exact ih1 _ _ _ _ | exact ih2 _ _ _ _ _ | exact impl_kindOf.mono _ _ | exact slices_Equal_int.mono _ _ _ | exact LeO.none _ | refine LeO.ite ?_ ?_ | refine LeO.bind ?_ (fun _ => ?_)
set_option maxHeartbeats 8000000 in
set_option maxRecDepth 100000 in
theorem impl_KindsOfArea.calls (k : Nat) (a0 : Int) (r1 : List (List Int)) (r2 : Bool) (w : World) (h : impl_KindsOfArea.f k a0 = some (r1, r2)) :
  Calls Try.prog 47 #[.int .i64 a0] w fun e w' => ∃ v0_ : Value, e = .returned (.tuple #[v0_, .bool r2]) ∧ Kd.S (Kd.slice 3 (Kd.int .i64)) 77 w' w.heap.size (fun _ => True) v0_ r1 ∧ Below w.heap.size w w' := by
 have HB := aM (Below.refl w.heap.size w)
 unfold impl_KindsOfArea.f at h; have H := h; clear h
 replace H := bS H; obtain ⟨t524, A2, H⟩ := H
 by_cases c3 : t524 = true
 ·subst c3; replace H := iT H; obtain ⟨y525, hy525⟩ : ∃ y_ : List (List Int), y_ = (([] : List (List Int))) := ⟨_, rfl⟩; rw [← hy525] at H; have Ny525 := aM hy525; clear hy525; have H' := aM H; clear H
  go_enter Try.func47, Try.ntmps47
  go_wp2_with (first | ((with_reducible refine gC (f := 63) rfl ?_); refine goesL_ (some 9) rfl rfl Try.func63 kR rfl #[.int .i64 a0, .int .i64 1, .int .i64 60] rfl sQ ?_; (with_reducible refine (impl_within.calls a0 1 60 true _ A2.out).mono ?_); rintro e w' ⟨rfl, ⟨nd, rfl⟩⟩; refine ⟨_, rfl, ?_⟩) | ((with_reducible refine gate_dst (N := 11) rfl ?_); refine Kd.S_lit (Kd.slice 3 (Kd.int .i64)) _ 77 ?hg (N := 11) ?hd (xs := ([] : List (List Int))) (inner := []) (ok := fun _ => True) (okp := fun _ => True) ?hr ?hp (fun _ hk => hk) trivial (Below.refl _ _) (Nat.le_refl _) (by simp) ?_; (case hd => rfl); (case hg => rfl); (case hr => first | (go_simp; done) | (go_simp; rfl)); (case hp => exact (Reps.none _ _)); intro v526 w4 ho5 hb hg_ hnew_; clear hg_ hnew_; (first | rw [← Ny525.out] at ho5 | (simp only [Int.reduceToNat] at ho5; rw [← Ny525.out] at ho5)); have HO527 := aM (Kd.S_lower ho5 (pZ bQ)); replace HB := tB HB hb; clear hb ho5))
  go_loopg [4, 5] k (fun kq v4 v5 w' => ∃ (x4_1 : List (List Int)) (x5_1 : Int), v5 = .int .i64 x5_1 ∧ Aside0 (impl_KindsOfArea.l0 kq a0 x4_1 x5_1 = some (r1, r2)) ∧ Aside0 (kq ≤ k) ∧ Aside0 (Kd.S (Kd.slice 3 (Kd.int .i64)) 77 w' w.heap.size (fun _ => True) v4 x4_1) ∧ Aside0 (Below w.heap.size w w'))
  case atStart => exact ⟨(y525), (1), eQ, H', ⟨Nat.le_refl _⟩, ⟨by (with_reducible repeat (first | apply Kd.S_alloc | apply Kd.S_drewN | apply Kd.S_drew)); exact HO527.out⟩, ⟨bQ⟩⟩
  case round =>
   clear H'; (try clear c3); obtain ⟨x4_1, x5_1, rfl, HA, HK1, HO_4, HB⟩ := hrel
   cases gk with
   | zero => exact absurd HA.out (by simp [impl_KindsOfArea.l0])
   | succ k1 =>
    have H := HA.out; clear HA
    simp only [impl_KindsOfArea.l0] at H
    by_cases c6 : x5_1 ≤ a0
    ·rw [if_pos c6] at H; have c6b0 := dE c6; clear c6; have H' := aM H; clear H; go_wp2
     go_loopg [4, 6] k1 (fun kq v4 v6 w' => ∃ (x4_2 : List (List Int)) (x6_2 : Int), v6 = .int .i64 x6_2 ∧ Aside0 (impl_KindsOfArea.l1 kq a0 x4_2 x5_1 x6_2 = some (r1, r2)) ∧ Aside0 (kq ≤ k1) ∧ Aside0 (Kd.S (Kd.slice 3 (Kd.int .i64)) 77 w' w.heap.size (fun _ => True) v4 x4_2) ∧ Aside0 (Below w.heap.size w w'))
     case atStart => exact ⟨(x4_1), (0), eQ, H', ⟨Nat.le_refl _⟩, ⟨by (with_reducible repeat (first | apply Kd.S_alloc | apply Kd.S_drewN | apply Kd.S_drew)); exact HO_4.out⟩, ⟨bQ⟩⟩
     case round =>
      clear H'; (try clear c3); (try clear c6); (try clear c6b0); obtain ⟨x4_2, x6_2, rfl, HA, HK2, HO_4, HB⟩ := hrel
      cases gk with
      | zero => exact absurd HA.out (by simp [impl_KindsOfArea.l1])
      | succ k2 =>
       have H := HA.out; clear HA
       simp only [impl_KindsOfArea.l1] at H
       have HC7 := aM H; clear H
       go_upto_region 8 with (fail)
       go_cut [27] (fun v27 wc => ∃ (kq : Nat) (x27_6 : Bool), v27 = .bool x27_6 ∧ Aside0 (impl_KindsOfArea.j2 kq a0 x4_2 x5_1 x6_2 x27_6 = some (r1, r2)) ∧ Aside0 (kq ≤ k2) ∧ Aside0 (Kd.S (Kd.slice 3 (Kd.int .i64)) 77 wc w.heap.size (fun _ => True) u4 x4_2) ∧ Aside0 (Below w.heap.size w wc))
       case first =>
        have H := HC7.out; clear HC7; replace H := iM H; obtain ⟨c8, H⟩ := H; have c8b0 : (x5_1 == 0) = false := beq_eq_false_iff_ne.mpr c8; have c8b1 : (x5_1 != 0) = true := bne_iff_ne.mpr c8
        (first | rw [c8b0] | (simp only [i64_w, i32_w]; rw [c8b0]) | skip)
        by_cases c9 : (Int.tmod a0 x5_1) = 0
        ·rw [if_pos c9] at H; have c9b0 : ((Int.tmod a0 x5_1) == 0) = true := beq_iff_eq.mpr c9; have c9b1 : ((Int.tmod a0 x5_1) != 0) = false := bne_eq_false_iff_eq.mpr c9; clear c9; have H' := aM H; clear H; go_wp2
         go_meet
         case rel => exact ⟨_, (decide (x6_2 < (wrap64 (Int.tdiv a0 x5_1)))), eQ, H', ⟨by have := HK1.out; have := HK2.out; first | omega | exact Nat.le_refl _⟩, ⟨by (with_reducible repeat (first | apply Kd.S_alloc | apply Kd.S_drewN | apply Kd.S_drew)); exact HO_4.out⟩, ⟨bQ⟩⟩
        ·rw [if_neg c9] at H; have c9b0 : ((Int.tmod a0 x5_1) == 0) = false := beq_eq_false_iff_ne.mpr c9; have c9b1 : ((Int.tmod a0 x5_1) != 0) = true := bne_iff_ne.mpr c9; have H' := aM H; clear H; go_wp2
         go_meet
         case rel => exact ⟨_, (false), eQ, H', ⟨by have := HK1.out; have := HK2.out; first | omega | exact Nat.le_refl _⟩, ⟨by (with_reducible repeat (first | apply Kd.S_alloc | apply Kd.S_drewN | apply Kd.S_drew)); exact HO_4.out⟩, ⟨bQ⟩⟩
       case rest =>
        clear HC7; (try clear c3); (try clear c6); (try clear c6b0); obtain ⟨kq, x27_6, rfl, HA, HJ6, HO_4, HB⟩ := hcut
        cases kq with
        | zero => exact absurd HA.out (by simp [impl_KindsOfArea.j2])
        | succ kj6 =>
         have H := HA.out; clear HA
         simp only [impl_KindsOfArea.j2] at H
         by_cases c10 : x27_6 = true
         ·subst c10; replace H := iT H; replace H := iM H; obtain ⟨c11, H⟩ := H; have c11b0 : (x5_1 == 0) = false := beq_eq_false_iff_ne.mpr c11; have c11b1 : (x5_1 != 0) = true := bne_iff_ne.mpr c11; replace H := lS H; obtain ⟨y528, Ny528, H⟩ := H; replace H := bS H; obtain ⟨t531, A12, H⟩ := H; replace H := bS H; obtain ⟨t534, A13, H⟩ := H; replace H := bS H; obtain ⟨t537, A14, H⟩ := H
          by_cases c15 : t537 = true
          ·subst c15; replace H := iT H; replace H := iN H; obtain ⟨c16, H⟩ := H; have LMc16 := aM c16; clear c16; obtain ⟨y538, hy538⟩ : ∃ y_ : List (List Int), y_ = (x4_2 ++ [y528]) := ⟨_, rfl⟩; rw [← hy538] at H; have Ny538 := aM hy538; clear hy538; have H' := aM H; clear H
           go_wp2_with (first | ((with_reducible refine gate_dst (N := 35) rfl ?_); refine Kd.R_lit (Kd.int .i64) _ 3 ?hg (N := 35) ?hd (xs := ([x5_1, x6_2, wrap64 (Int.tdiv a0 x5_1)] : List Int)) (inner := [.int .i64 x5_1, .int .i64 x6_2, .int .i64 (wrap64 (Int.tdiv a0 x5_1))]) (ok := fun _ => True) (okp := fun _ => True) ?hr ?hp (fun _ hk => hk) trivial (Below.refl _ _) (Nat.le_refl _) (by simp) ?_; (case hd => rfl); (case hg => rfl); (case hr => first | (go_simp; done) | (go_simp; rfl)); (case hp => exact (Reps.one (show Kd.M (Kd.int .i64) _ _ _ x5_1 [.int .i64 x5_1] from rfl) (Reps.one (show Kd.M (Kd.int .i64) _ _ _ x6_2 [.int .i64 x6_2] from rfl) (Reps.one (show Kd.M (Kd.int .i64) _ _ _ (wrap64 (Int.tdiv a0 x5_1)) [.int .i64 (wrap64 (Int.tdiv a0 x5_1))] from rfl) (Reps.none _ _))))); intro v529 w17 ho18 hb hg_ hnew_; clear hg_ hnew_; (first | rw [← Ny528.out] at ho18 | (simp only [Int.reduceToNat] at ho18; rw [← Ny528.out] at ho18)); have HO530 := aM (Kd.R_lower ho18 (pZ bQ)); replace HO_4 := aM (Kd.S_elder' (by (with_reducible repeat (first | apply Kd.S_alloc | apply Kd.S_drewN | apply Kd.S_drew)); exact HO_4.out) (Kd.R_base ho18) hb); replace HB := tB HB hb; clear hb ho18) | ((with_reducible refine gC (f := 96) rfl ?_); refine goesL_ (some 41) rfl rfl Try.func96 kR rfl #[.int .i64 x5_1, .int .i64 x6_2, .int .i64 (wrap64 (Int.tdiv a0 x5_1))] rfl sQ ?_; (with_reducible refine (impl_triangle.calls x5_1 x6_2 (wrap64 (Int.tdiv a0 x5_1)) t531 _ A12.out).mono ?_); rintro e w19 ⟨v532, rfl, ho0, hb⟩; refine ⟨_, rfl, ?_⟩; have HO533 := aM (Kd.R_lower ho0 (pZ bQ)); replace HO_4 := aM (Kd.S_below (by (with_reducible repeat (first | apply Kd.S_alloc | apply Kd.S_drewN | apply Kd.S_drew)); exact HO_4.out) hb); replace HO530 := aM (Kd.R_below (by (with_reducible repeat (first | apply rA | apply rN | apply rD)); exact HO530.out) hb); replace HB := tB HB hb; (try clear hb); (try clear hb2); (try clear hk); (try clear hi); (try clear ho0); obtain ⟨Ao20, co20, eo20⟩ := Kd.R_slice HO533.out; subst eo20) | ((with_reducible refine gC (f := 95) rfl ?_); refine goesL_ (some 42) rfl rfl Try.func95 kR rfl #[.slice Ao20 t531.length co20] rfl sQ ?_; (with_reducible refine (impl_kindOf.calls kj6 _ _ t531 t534 _ ?side1 ?side2 A13.out).mono ?_); (case side1 => repeat (first | exact (rR HO533.out).2.2 | (with_reducible refine cA ?_ _) | (with_reducible refine cN ?_ _) | (with_reducible refine cD ?_))); (case side2 => exact (rR HO533.out).2.1); rintro e w21 ⟨v535, rfl, ho0, hb⟩; refine ⟨_, rfl, ?_⟩; have HO536 := aM (Kd.R_lower (Kd.R_new' ho0 (Kd.R_lt (by (with_reducible repeat (first | apply rA | apply rN | apply rD)); exact HO530.out))) (pZ bQ)); replace HO_4 := aM (Kd.S_elder' (by (with_reducible repeat (first | apply Kd.S_alloc | apply Kd.S_drewN | apply Kd.S_drew)); exact HO_4.out) (Kd.R_base ho0) hb); replace HO530 := aM (Kd.R_elder' (by (with_reducible repeat (first | apply rA | apply rN | apply rD)); exact HO530.out) (Kd.R_base ho0) hb); replace HO533 := aM (Kd.R_below (by (with_reducible repeat (first | apply rA | apply rN | apply rD)); exact HO533.out) hb); replace HB := tB HB hb; (try clear hb); (try clear hb2); (try clear hk); (try clear hi); (try clear ho0); obtain ⟨Ao22, co22, eo22⟩ := Kd.R_slice HO536.out; subst eo22; obtain ⟨Ao23, co23, eo23⟩ := Kd.R_slice HO530.out; subst eo23) | ((with_reducible refine gC (f := 94) rfl ?_); refine goesL_ (some 44) rfl rfl Try.func94 kR rfl #[.slice Ao22 t534.length co22, .slice Ao23 y528.length co23] rfl sQ ?_; (with_reducible refine (slices_Equal_int.calls kj6 _ _ t534 _ _ y528 true _ ?side1 ?side2 ?side3 ?side4 A14.out).mono ?_); (case side1 => repeat (first | exact (rR HO536.out).2.2 | (with_reducible refine cA ?_ _) | (with_reducible refine cN ?_ _) | (with_reducible refine cD ?_))); (case side2 => exact (rR HO536.out).2.1); (case side3 => repeat (first | exact (rR HO530.out).2.2 | (with_reducible refine cA ?_ _) | (with_reducible refine cN ?_ _) | (with_reducible refine cD ?_))); (case side4 => exact (rR HO530.out).2.1); rintro e w' ⟨rfl, ⟨nd, rfl⟩⟩; refine ⟨_, rfl, ?_⟩) | ((with_reducible refine gate_builtin (b := .append) (xs := #[.tmp 45, .tmp 47]) rfl ?_); at_builtin; refine Kd.S_append (Kd.slice 3 (Kd.int .i64)) (w0 := w) w.heap.size rfl (.tmp 45) (.tmp 47) 39 77 (.slice none 0 0) 24 rfl Try.underlying39 info77 rfl (by decide) (by omega) u4 x4_2 y528 [.slice Ao23 y528.length co23] (fun k_ => some k_ ≠ (.slice Ao22 t534.length co22 : Value).ownBlock) (fun k_ => some k_ = (.slice Ao23 y528.length co23 : Value).ownBlock) rfl rfl ?aP (fun k_ hk_ => ((Kd.R_mono (ok' := fun k_ => ((fun k_ => some k_ ≠ (.slice Ao22 t534.length co22 : Value).ownBlock)) k_ ∧ some k_ ≠ (u4 : Value).ownBlock) (Kd.R_apart' (HO530.out) (Kd.S_typed HO_4.out) (by decide)) (fun k_ hk => ⟨hk.1.2, hk.2⟩))).1 k_ hk_.symm) ?aF ?aO ?aB ?aS ?aL ?_; (case aP => exact Kd.M_row (Kd.R_mono (Kd.R_tight rfl (Kd.R_mono (ok' := fun k_ => ((fun k_ => some k_ ≠ (.slice Ao22 t534.length co22 : Value).ownBlock)) k_ ∧ some k_ ≠ (u4 : Value).ownBlock) (Kd.R_apart' (HO530.out) (Kd.S_typed HO_4.out) (by decide)) (fun k_ hk => ⟨hk.1.2, hk.2⟩))) (fun _ h_ => h_))); (case aB => exact bQ); (case aF => exact (fun k_ hk => Kd.fresh' (Kd.R_lt (by (with_reducible repeat (first | apply rA | apply rN | apply rD)); exact HO536.out)) k_ hk)); (case aO => exact (by (with_reducible repeat (first | apply Kd.S_alloc | apply Kd.S_drewN | apply Kd.S_drew)); exact Kd.S_mono HO_4.out (fun k_ hk => ⟨hk.2, fun e_ => hk.1.2 e_⟩))); (case aS => exact (pZ bQ)); (case aL => have := LMc16.out; omega); intro v539 w24 ho hb hg hat; rw [← Ny538.out] at ho; have n0_ := aM (Kd.R_over' (by (with_reducible repeat (first | apply rA | apply rN | apply rD)); exact HO533.out) (Kd.S_typed (by (with_reducible repeat (first | apply Kd.S_alloc | apply Kd.S_drewN | apply Kd.S_drew)); exact HO_4.out)) (by decide) hg); have n1_ := aM (Kd.R_over' (by (with_reducible repeat (first | apply rA | apply rN | apply rD)); exact HO536.out) (Kd.S_typed (by (with_reducible repeat (first | apply Kd.S_alloc | apply Kd.S_drewN | apply Kd.S_drew)); exact HO_4.out)) (by decide) hg); have n2_ := aM (hb); have n3_ := aM (ho); clear HO533; clear HO536; clear HB; clear HO_4; clear HO530; have HO533 := n0_; have HO536 := n1_; have HB := n2_; have HO540 := n3_; clear n0_ n1_ n2_ n3_; clear ho hb hg hat))
           go_roundg kj6
           case measure => have := HK1.out; have := HK2.out; have := HJ6.out; omega
           case rel => exact ⟨(y538), (wrap64 (x6_2 + 1)), eQ, H', ⟨by have := HK1.out; have := HK2.out; have := HJ6.out; omega⟩, ⟨by (with_reducible repeat (first | apply Kd.S_alloc | apply Kd.S_drewN | apply Kd.S_drew)); exact Kd.S_mono HO540.out (fun _ hk => trivial)⟩, ⟨bQ⟩⟩
          ·replace c15 := Bool.eq_false_iff.mpr c15; subst c15; replace H := iF H; have H' := aM H; clear H
           go_wp2_with (first | ((with_reducible refine gate_dst (N := 35) rfl ?_); refine Kd.R_lit (Kd.int .i64) _ 3 ?hg (N := 35) ?hd (xs := ([x5_1, x6_2, wrap64 (Int.tdiv a0 x5_1)] : List Int)) (inner := [.int .i64 x5_1, .int .i64 x6_2, .int .i64 (wrap64 (Int.tdiv a0 x5_1))]) (ok := fun _ => True) (okp := fun _ => True) ?hr ?hp (fun _ hk => hk) trivial (Below.refl _ _) (Nat.le_refl _) (by simp) ?_; (case hd => rfl); (case hg => rfl); (case hr => first | (go_simp; done) | (go_simp; rfl)); (case hp => exact (Reps.one (show Kd.M (Kd.int .i64) _ _ _ x5_1 [.int .i64 x5_1] from rfl) (Reps.one (show Kd.M (Kd.int .i64) _ _ _ x6_2 [.int .i64 x6_2] from rfl) (Reps.one (show Kd.M (Kd.int .i64) _ _ _ (wrap64 (Int.tdiv a0 x5_1)) [.int .i64 (wrap64 (Int.tdiv a0 x5_1))] from rfl) (Reps.none _ _))))); intro v529 w25 ho26 hb hg_ hnew_; clear hg_ hnew_; (first | rw [← Ny528.out] at ho26 | (simp only [Int.reduceToNat] at ho26; rw [← Ny528.out] at ho26)); have HO530 := aM (Kd.R_lower ho26 (pZ bQ)); replace HO_4 := aM (Kd.S_elder' (by (with_reducible repeat (first | apply Kd.S_alloc | apply Kd.S_drewN | apply Kd.S_drew)); exact HO_4.out) (Kd.R_base ho26) hb); replace HB := tB HB hb; clear hb ho26) | ((with_reducible refine gC (f := 96) rfl ?_); refine goesL_ (some 41) rfl rfl Try.func96 kR rfl #[.int .i64 x5_1, .int .i64 x6_2, .int .i64 (wrap64 (Int.tdiv a0 x5_1))] rfl sQ ?_; (with_reducible refine (impl_triangle.calls x5_1 x6_2 (wrap64 (Int.tdiv a0 x5_1)) t531 _ A12.out).mono ?_); rintro e w27 ⟨v532, rfl, ho0, hb⟩; refine ⟨_, rfl, ?_⟩; have HO533 := aM (Kd.R_lower ho0 (pZ bQ)); replace HO_4 := aM (Kd.S_below (by (with_reducible repeat (first | apply Kd.S_alloc | apply Kd.S_drewN | apply Kd.S_drew)); exact HO_4.out) hb); replace HO530 := aM (Kd.R_below (by (with_reducible repeat (first | apply rA | apply rN | apply rD)); exact HO530.out) hb); replace HB := tB HB hb; (try clear hb); (try clear hb2); (try clear hk); (try clear hi); (try clear ho0); obtain ⟨Ao28, co28, eo28⟩ := Kd.R_slice HO533.out; subst eo28) | ((with_reducible refine gC (f := 95) rfl ?_); refine goesL_ (some 42) rfl rfl Try.func95 kR rfl #[.slice Ao28 t531.length co28] rfl sQ ?_; (with_reducible refine (impl_kindOf.calls kj6 _ _ t531 t534 _ ?side1 ?side2 A13.out).mono ?_); (case side1 => repeat (first | exact (rR HO533.out).2.2 | (with_reducible refine cA ?_ _) | (with_reducible refine cN ?_ _) | (with_reducible refine cD ?_))); (case side2 => exact (rR HO533.out).2.1); rintro e w29 ⟨v535, rfl, ho0, hb⟩; refine ⟨_, rfl, ?_⟩; have HO536 := aM (Kd.R_lower (Kd.R_new' ho0 (Kd.R_lt (by (with_reducible repeat (first | apply rA | apply rN | apply rD)); exact HO530.out))) (pZ bQ)); replace HO_4 := aM (Kd.S_elder' (by (with_reducible repeat (first | apply Kd.S_alloc | apply Kd.S_drewN | apply Kd.S_drew)); exact HO_4.out) (Kd.R_base ho0) hb); replace HO530 := aM (Kd.R_elder' (by (with_reducible repeat (first | apply rA | apply rN | apply rD)); exact HO530.out) (Kd.R_base ho0) hb); replace HO533 := aM (Kd.R_below (by (with_reducible repeat (first | apply rA | apply rN | apply rD)); exact HO533.out) hb); replace HB := tB HB hb; (try clear hb); (try clear hb2); (try clear hk); (try clear hi); (try clear ho0); obtain ⟨Ao30, co30, eo30⟩ := Kd.R_slice HO536.out; subst eo30; obtain ⟨Ao31, co31, eo31⟩ := Kd.R_slice HO530.out; subst eo31) | ((with_reducible refine gC (f := 94) rfl ?_); refine goesL_ (some 44) rfl rfl Try.func94 kR rfl #[.slice Ao30 t534.length co30, .slice Ao31 y528.length co31] rfl sQ ?_; (with_reducible refine (slices_Equal_int.calls kj6 _ _ t534 _ _ y528 false _ ?side1 ?side2 ?side3 ?side4 A14.out).mono ?_); (case side1 => repeat (first | exact (rR HO536.out).2.2 | (with_reducible refine cA ?_ _) | (with_reducible refine cN ?_ _) | (with_reducible refine cD ?_))); (case side2 => exact (rR HO536.out).2.1); (case side3 => repeat (first | exact (rR HO530.out).2.2 | (with_reducible refine cA ?_ _) | (with_reducible refine cN ?_ _) | (with_reducible refine cD ?_))); (case side4 => exact (rR HO530.out).2.1); rintro e w' ⟨rfl, ⟨nd, rfl⟩⟩; refine ⟨_, rfl, ?_⟩))
           go_roundg kj6
           case measure => have := HK1.out; have := HK2.out; have := HJ6.out; omega
           case rel => exact ⟨(x4_2), (wrap64 (x6_2 + 1)), eQ, H', ⟨by have := HK1.out; have := HK2.out; have := HJ6.out; omega⟩, ⟨by (with_reducible repeat (first | apply Kd.S_alloc | apply Kd.S_drewN | apply Kd.S_drew)); exact Kd.S_mono HO_4.out (fun _ hk => trivial)⟩, ⟨bQ⟩⟩
         ·replace c10 := Bool.eq_false_iff.mpr c10; subst c10; replace H := iF H; have H' := aM H; clear H; go_wp2
          go_roundg kj6
          case measure => have := HK1.out; have := HK2.out; have := HJ6.out; omega
          case rel => exact ⟨(x4_2), (wrap64 (x5_1 + 1)), eQ, H', ⟨by have := HK1.out; have := HK2.out; have := HJ6.out; omega⟩, ⟨by (with_reducible repeat (first | apply Kd.S_alloc | apply Kd.S_drewN | apply Kd.S_drew)); exact HO_4.out⟩, ⟨bQ⟩⟩
    ·rw [if_neg c6] at H; have c6b0 := decide_eq_false c6; clear c6
     simp only [Option.some.injEq, Prod.mk.injEq] at H
     obtain ⟨rfl, rfl⟩ := H; go_wp2
     go_ret2
     exact ⟨_, by first | rfl | (simp [errW_none, errW_some] <;> rfl) | (simp [*, errW_none, errW_some] <;> rfl), by (with_reducible repeat (first | apply Kd.S_alloc | apply Kd.S_drewN | apply Kd.S_drew)); exact HO_4.out, bQ⟩
 ·replace c3 := Bool.eq_false_iff.mpr c3; subst c3; replace H := iF H
  simp only [Option.some.injEq, Prod.mk.injEq] at H
  obtain ⟨rfl, rfl⟩ := H
  go_enter Try.func47, Try.ntmps47
  go_wp2_with (first | ((with_reducible refine gC (f := 63) rfl ?_); refine goesL_ (some 9) rfl rfl Try.func63 kR rfl #[.int .i64 a0, .int .i64 1, .int .i64 60] rfl sQ ?_; (with_reducible refine (impl_within.calls a0 1 60 false _ A2.out).mono ?_); rintro e w' ⟨rfl, ⟨nd, rfl⟩⟩; refine ⟨_, rfl, ?_⟩))
  go_ret2
  exact ⟨_, by first | rfl | (simp [errW_none, errW_some] <;> rfl) | (simp [*, errW_none, errW_some] <;> rfl), by first | exact Kd.S_nil _ _ _ _ _ | exact Kd.N_nil _ _ _ _ _ | exact Kd.V_nil _ _ _ _ _ | exact Kd.Q_nil _ _ _ _ _ | exact Kd.R_nil _ _ _ _ _, bQ⟩

def impl_CountKinds.f (k : Nat) (a0 : Int) : Option (Int × Bool) := (impl_KindsOfArea.f k a0).bind fun bt541 => (some ((bt541.1.length : Int), bt541.2))
theorem impl_CountKinds.mono : ∀ a0 k, LeO (impl_CountKinds.f k a0) (impl_CountKinds.f (k + 1) a0) := by
 intro a0 k
 unfold impl_CountKinds.f
 repeat' first | (with_reducible exact impl_KindsOfArea.mono _ _) | (with_reducible exact LeO.refl _) | (with_reducible exact LeO.none _) | (with_reducible refine LeO.ite ?_ ?_) | (with_reducible refine LeO.bind ?_ (fun _ => ?_)) | exact impl_KindsOfArea.mono _ _ | exact LeO.none _ | refine LeO.ite ?_ ?_ | refine LeO.bind ?_ (fun _ => ?_)
set_option maxHeartbeats 8000000 in
set_option maxRecDepth 100000 in
theorem impl_CountKinds.calls (k : Nat) (a0 : Int) (r1 : Int) (r2 : Bool) (w : World) (h : impl_CountKinds.f k a0 = some (r1, r2)) :
  Calls Try.prog 45 #[.int .i64 a0] w fun e w' => e = .returned (.tuple #[.int .i64 r1, .bool r2]) ∧ Below w.heap.size w w' := by
 have HB := aM (Below.refl w.heap.size w)
 unfold impl_CountKinds.f at h; have H := h; clear h
 replace H := bS H; obtain ⟨⟨t541, t542⟩, A2, H⟩ := H
 simp only [Option.some.injEq, Prod.mk.injEq] at H
 obtain ⟨rfl, rfl⟩ := H
 go_enter Try.func45, Try.ntmps45
 go_wp2_with (first | ((with_reducible refine gC (f := 47) rfl ?_); refine goesL_ (some 8) rfl rfl Try.func47 kR rfl #[.int .i64 a0] rfl sQ ?_; (with_reducible refine (impl_KindsOfArea.calls k a0 t541 t542 _ A2.out).mono ?_); rintro e w3 ⟨v543, rfl, ho0, hb⟩; refine ⟨_, rfl, ?_⟩; have HO544 := aM (Kd.S_lower ho0 (pZ bQ)); replace HB := tB HB hb; (try clear hb); (try clear hb2); (try clear hk); (try clear hi); (try clear ho0); obtain ⟨Ao4, co4, eo4⟩ := Kd.S_slice HO544.out; subst eo4))
 go_ret2
 exact ⟨wQ, bQ⟩

end Go.Proofs.Ytfihohongkfibaa.X
