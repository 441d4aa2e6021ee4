-- thin
-- short
-- compact
import Derived.Test.YtfihohongkfibaaXA
import Derived.Test.YtfihohongkfibaaX0
import Derived.Test.YtfihohongkfibaaX23
import Derived.Test.YtfihohongkfibaaX25
import Derived.Test.YtfihohongkfibaaX26
namespace Go.Proofs.Ytfihohongkfibaa.X
open Go.RowKit Go.Proofs.Ytfihohongkfibaa.XW Go.Proofs.YtfihohongkfibaaW.PrintWords Go.Proofs.YtfihohongkfibaaW.PrintLast Go.Proofs.YtfihohongkfibaaW.PrintMore
attribute [local go_sem] max2_int min2_int max_two min_two max_three min_three max_four min_four   -- for this text's walks alone
set_option linter.unusedVariables false
set_option linter.unusedSimpArgs false

mutual
def laws_FnExactKindsOfArea.j0 : Nat → Int → List (List Int) → Bool → List (List Int) → Bool → Option (Bool)
 | 0, _, _, _, _, _ => none
 | k + 1, x0, x3, x4, x5, x29 => if x29 = true then (some false) else ((laws_markIntSS.f k x5 1).bind fun bt571 => ((laws_heldIntSS.f k bt571.2 1).bind fun t572 => (if t572 < 0 then (some false) else (if t572 = bt571.1 then ((impl_KindsOfArea.f k x0).bind fun bt573 => ((laws_eqIntSS.f k bt573.1 x3).bind fun t577 => (if t577 = true then (laws_FnExactKindsOfArea.j1 k bt571.2 bt571.1 (bt573.2 != x4)) else (laws_FnExactKindsOfArea.j1 k bt571.2 bt571.1 true)))) else (some false)))))
def laws_FnExactKindsOfArea.j1 : Nat → List (List Int) → Int → Bool → Option (Bool)
 | 0, _, _, _ => none
 | k + 1, x5, x7, x54 => if x54 = true then (some false) else ((laws_heldIntSS.f k x5 1).bind fun t578 => (if t578 < 0 then (some false) else (if t578 = x7 then (some true) else (some false))))
end
def laws_FnExactKindsOfArea.f (k : Nat) (a0 : Int) : Option (Bool) := (spec_KindsOfArea.f k a0).bind fun bt562 => ((impl_KindsOfArea.f k a0).bind fun bt566 => ((laws_eqIntSS.f k bt566.1 bt562.1).bind fun t570 => (if t570 = true then (laws_FnExactKindsOfArea.j0 k a0 bt562.1 bt562.2 bt566.1 (bt566.2 != bt562.2)) else (laws_FnExactKindsOfArea.j0 k a0 bt562.1 bt562.2 bt566.1 true))))
theorem laws_FnExactKindsOfArea.mono_l : ∀ k, (∀ y0 y1 y2 y3 y4, LeO (laws_FnExactKindsOfArea.j0 k y0 y1 y2 y3 y4) (laws_FnExactKindsOfArea.j0 (k + 1) y0 y1 y2 y3 y4)) ∧ (∀ y0 y1 y2, LeO (laws_FnExactKindsOfArea.j1 k y0 y1 y2) (laws_FnExactKindsOfArea.j1 (k + 1) y0 y1 y2))
 | 0 => ⟨fun _ _ _ _ _ r h => by simp [laws_FnExactKindsOfArea.j0] at h, fun _ _ _ r h => by simp [laws_FnExactKindsOfArea.j1] at h⟩
 | k + 1 => by
  obtain ⟨ih0, ih1⟩ := laws_FnExactKindsOfArea.mono_l k
  refine ⟨?_, ?_⟩ <;> intros <;> (first | unfold laws_FnExactKindsOfArea.j0 | unfold laws_FnExactKindsOfArea.j1) <;> repeat' first | (with_reducible exact ih0 _ _ _ _ _) | (with_reducible exact ih1 _ _ _) | (with_reducible exact impl_KindsOfArea.mono _ _) | (with_reducible exact laws_eqIntSS.mono _ _ _) | (with_reducible exact laws_heldIntSS.mono _ _ _) | (with_reducible exact laws_markIntSS.mono _ _ _) | (with_reducible exact spec_KindsOfArea.mono _ _) | (with_reducible exact LeO.refl _) | (with_reducible exact LeO.none _) | (with_reducible refine LeO.ite ?_ ?_) | (with_reducible refine LeO.bind ?_ (fun _ => ?_)) | exact ih0 _ _ _ _ _ | exact ih1 _ _ _ | exact impl_KindsOfArea.mono _ _ | exact laws_eqIntSS.mono _ _ _ | exact laws_heldIntSS.mono _ _ _ | exact laws_markIntSS.mono _ _ _ | exact spec_KindsOfArea.mono _ _ | exact LeO.none _ | refine LeO.ite ?_ ?_ | refine LeO.bind ?_ (fun _ => ?_)
theorem laws_FnExactKindsOfArea.mono : ∀ a0 k, LeO (laws_FnExactKindsOfArea.f k a0) (laws_FnExactKindsOfArea.f (k + 1) a0) := by
 intro a0 k
 obtain ⟨ih0, ih1⟩ := laws_FnExactKindsOfArea.mono_l k
 unfold laws_FnExactKindsOfArea.f
 repeat' first | (with_reducible exact ih0 _ _ _ _ _) | (with_reducible exact ih1 _ _ _) | (with_reducible exact impl_KindsOfArea.mono _ _) | (with_reducible exact laws_eqIntSS.mono _ _ _) | (with_reducible exact laws_heldIntSS.mono _ _ _) | (with_reducible exact laws_markIntSS.mono _ _ _) | (with_reducible exact spec_KindsOfArea.mono _ _) | (with_reducible exact LeO.refl _) | (with_reducible exact LeO.none _) | (with_reducible refine LeO.ite ?_ ?_) | (with_reducible refine LeO.bind ?_ (fun _ => ?_)) | exact ih0 _ _ _ _ _ | exact ih1 _ _ _ | exact impl_KindsOfArea.mono _ _ | exact laws_eqIntSS.mono _ _ _ | exact laws_heldIntSS.mono _ _ _ | exact laws_markIntSS.mono _ _ _ | exact spec_KindsOfArea.mono _ _ | exact LeO.none _ | refine LeO.ite ?_ ?_ | refine LeO.bind ?_ (fun _ => ?_)
set_option maxHeartbeats 8000000 in
set_option maxRecDepth 100000 in
theorem laws_FnExactKindsOfArea.calls (k : Nat) (a0 : Int) (r : Bool) (w : World) (h : laws_FnExactKindsOfArea.f k a0 = some r) :
  Calls Try.prog 12 #[.int .i64 a0] w fun e w' => e = .returned (.bool r) ∧ Below w.heap.size w w' := by
 have HB := aM (Below.refl w.heap.size w)
 unfold laws_FnExactKindsOfArea.f at h; have H := h; clear h
 replace H := bS H; obtain ⟨⟨t562, t563⟩, A2, H⟩ := H; replace H := bS H; obtain ⟨⟨t566, t567⟩, A3, H⟩ := H; have HC4 := aM H; clear H
 go_enter Try.func12, Try.ntmps12
 go_upto_region 3 with (first | ((with_reducible refine gC (f := 46) rfl ?_); refine goesL_ (some 13) rfl rfl Try.func46 kR rfl #[.int .i64 a0] rfl sQ ?_; (with_reducible refine (spec_KindsOfArea.calls k a0 t562 t563 _ A2.out).mono ?_); rintro e w5 ⟨v564, rfl, ho0, hb⟩; refine ⟨_, rfl, ?_⟩; have HO565 := aM (Kd.S_lower ho0 (pZ bQ)); replace HB := tB HB hb; (try clear hb); (try clear hb2); (try clear hk); (try clear hi); (try clear ho0)) | ((with_reducible refine gC (f := 47) rfl ?_); refine goesL_ (some 18) rfl rfl Try.func47 kR rfl #[.int .i64 a0] rfl sQ ?_; (with_reducible refine (impl_KindsOfArea.calls k a0 t566 t567 _ A3.out).mono ?_); rintro e w6 ⟨v568, rfl, ho0, hb⟩; refine ⟨_, rfl, ?_⟩; obtain ⟨nb_, hs3_, hs5_⟩ : ∃ nb_ : Nat, Kd.S (Kd.slice 3 (Kd.int .i64)) 77 w6 w.heap.size (fun k_ => k_ < nb_) v564 t562 ∧ Kd.S (Kd.slice 3 (Kd.int .i64)) 77 w6 w.heap.size (fun k_ => nb_ ≤ k_) v568 t566 := ⟨_, Kd.S_mono (Kd.S_old (by (with_reducible repeat (first | apply Kd.S_alloc | apply Kd.S_drewN | apply Kd.S_drew)); exact HO565.out) hb) (fun _ hk => hk.2), Kd.S_lower (Kd.S_mono (Kd.S_bound ho0) (fun _ hk => hk.2.1)) (pZ bQ)⟩; have n0_ := aM hs3_; have n1_ := aM hs5_; clear hs3_ hs5_; have n2_ := tB HB hb; clear HO565; clear HB; have HO565 := n0_; have HO569 := n1_; have HB := n2_; clear n0_ n1_ n2_; (try clear hb); (try clear hb2); (try clear hk); (try clear hi); (try clear ho0)))
 (try simp only [Act.put, sI, sZ, sS])
 go_cut [29] (fun v29 wc => ∃ (kq : Nat) (x29_3 : Bool), v29 = .bool x29_3 ∧ Aside0 (laws_FnExactKindsOfArea.j0 kq a0 t562 t563 t566 x29_3 = some r) ∧ Aside0 (kq ≤ k) ∧ Aside0 (Kd.S (Kd.slice 3 (Kd.int .i64)) 77 wc w.heap.size (fun k_ => k_ < nb_) v564 t562) ∧ Aside0 (Kd.S (Kd.slice 3 (Kd.int .i64)) 77 wc w.heap.size (fun k_ => nb_ ≤ k_) v568 t566) ∧ Aside0 (Below w.heap.size w wc))
 case first =>
  have H := HC4.out; clear HC4; replace H := bS H; obtain ⟨t570, A7, H⟩ := H
  by_cases c8 : t570 = true
  ·subst c8; replace H := iT H; have H' := aM H; clear H; obtain ⟨Ao9, co9, eo9⟩ := Kd.S_slice HO569.out; subst eo9; obtain ⟨Ao10, co10, eo10⟩ := Kd.S_slice HO565.out; subst eo10
   go_wp2_with (first | ((with_reducible refine gC (f := 29) rfl ?_); refine goesL_ (some 23) rfl rfl Try.func29 kR rfl #[.slice Ao9 t566.length co9, .slice Ao10 t562.length co10] rfl sQ ?_; (with_reducible refine (laws_eqIntSS.calls k _ _ t566 _ _ t562 true _ ?side1 ?side2 ?side3 ?side4 A7.out).mono ?_); (case side1 => repeat (first | exact (Kd.S_reads' HO569.out).2.2 | (with_reducible refine cA ?_ _) | (with_reducible refine cN ?_ _) | (with_reducible refine cD ?_))); (case side2 => exact (Kd.S_reads' HO569.out).2.1); (case side3 => repeat (first | exact (Kd.S_reads' HO565.out).2.2 | (with_reducible refine cA ?_ _) | (with_reducible refine cN ?_ _) | (with_reducible refine cD ?_))); (case side4 => exact (Kd.S_reads' HO565.out).2.1); rintro e w' ⟨rfl, ⟨nd, rfl⟩⟩; refine ⟨_, rfl, ?_⟩))
   go_meet
   case rel => exact ⟨_, ((t567 != t563)), eQ, H', ⟨by first | omega | exact Nat.le_refl _⟩, ⟨by (with_reducible repeat (first | apply Kd.S_alloc | apply Kd.S_drewN | apply Kd.S_drew)); exact Kd.S_mono HO565.out (fun _ hk => hk)⟩, ⟨by (with_reducible repeat (first | apply Kd.S_alloc | apply Kd.S_drewN | apply Kd.S_drew)); exact Kd.S_mono HO569.out (fun _ hk => hk)⟩, ⟨bQ⟩⟩
  ·replace c8 := Bool.eq_false_iff.mpr c8; subst c8; replace H := iF H; have H' := aM H; clear H; obtain ⟨Ao11, co11, eo11⟩ := Kd.S_slice HO569.out; subst eo11; obtain ⟨Ao12, co12, eo12⟩ := Kd.S_slice HO565.out; subst eo12
   go_wp2_with (first | ((with_reducible refine gC (f := 29) rfl ?_); refine goesL_ (some 23) rfl rfl Try.func29 kR rfl #[.slice Ao11 t566.length co11, .slice Ao12 t562.length co12] rfl sQ ?_; (with_reducible refine (laws_eqIntSS.calls k _ _ t566 _ _ t562 false _ ?side1 ?side2 ?side3 ?side4 A7.out).mono ?_); (case side1 => repeat (first | exact (Kd.S_reads' HO569.out).2.2 | (with_reducible refine cA ?_ _) | (with_reducible refine cN ?_ _) | (with_reducible refine cD ?_))); (case side2 => exact (Kd.S_reads' HO569.out).2.1); (case side3 => repeat (first | exact (Kd.S_reads' HO565.out).2.2 | (with_reducible refine cA ?_ _) | (with_reducible refine cN ?_ _) | (with_reducible refine cD ?_))); (case side4 => exact (Kd.S_reads' HO565.out).2.1); rintro e w' ⟨rfl, ⟨nd, rfl⟩⟩; refine ⟨_, rfl, ?_⟩))
   go_meet
   case rel => exact ⟨_, (true), eQ, H', ⟨by first | omega | exact Nat.le_refl _⟩, ⟨by (with_reducible repeat (first | apply Kd.S_alloc | apply Kd.S_drewN | apply Kd.S_drew)); exact Kd.S_mono HO565.out (fun _ hk => hk)⟩, ⟨by (with_reducible repeat (first | apply Kd.S_alloc | apply Kd.S_drewN | apply Kd.S_drew)); exact Kd.S_mono HO569.out (fun _ hk => hk)⟩, ⟨bQ⟩⟩
 case rest =>
  clear HC4; obtain ⟨kq, x29_3, rfl, HA, HJ3, HO_3, HO_5, HB⟩ := hcut
  cases kq with
  | zero => exact absurd HA.out (by simp [laws_FnExactKindsOfArea.j0])
  | succ kj3 =>
   have H := HA.out; clear HA
   simp only [laws_FnExactKindsOfArea.j0] at H
   by_cases c13 : x29_3 = true
   ·subst c13; replace H := iT H; obtain rfl := Option.some.inj H; go_wp2
    go_ret
    exact ⟨wQ, bQ⟩
   ·replace c13 := Bool.eq_false_iff.mpr c13; subst c13; replace H := iF H; replace H := bS H; obtain ⟨⟨t571, tm_⟩, A14, H⟩ := H; replace H := bS H; obtain ⟨t572, A15, H⟩ := H
    by_cases c16 : t572 < 0
    ·rw [if_pos c16] at H; have c16b0 := dE c16; clear c16; obtain rfl := Option.some.inj H; obtain ⟨Ao17, co17, eo17⟩ := Kd.S_slice HO_5.out; subst eo17
     go_wp2_with (first | ((with_reducible refine gC (f := 30) rfl ?_); refine goesL_ (some 32) rfl rfl Try.func30 kR rfl #[.slice Ao17 t566.length co17, .int .i64 1] rfl sQ ?_; (with_reducible refine (laws_markIntSS.calls kj3 (fun k_ => nb_ ≤ k_) _ t566 1 t571 tm_ w _ ?side1 ?side2 A14.out).mono ?_); (case side1 => repeat (first | (with_reducible first | exact HB.out | apply pA | apply pN | apply pD) | exact HB.out)); (case side2 => (with_reducible repeat (first | apply Kd.S_alloc | apply Kd.S_drewN | apply Kd.S_drew)); exact HO_5.out); rintro e wm_ ⟨rfl, hs_, hb, hk⟩; refine ⟨_, rfl, ?_⟩; have n0_ := aM (Kd.S_step (by (with_reducible repeat (first | apply Kd.S_alloc | apply Kd.S_drewN | apply Kd.S_drew)); exact HO_3.out) (fun k_ h_ hlt => hk.2 k_ hlt (fun h2_ => absurd h2_ (Nat.not_le.2 h_)))); have hl_ := (Kd.S_reads' hs_).1; rw [hl_] at hs_ ⊢; clear HO_3 HO_5 HB; have HO_3 := n0_; have HO_5 := aM hs_; have HB := aM hb; clear n0_ hs_ hb hk hl_) | ((with_reducible refine gC (f := 31) rfl ?_); refine goesL_ (some 35) rfl rfl Try.func31 kR rfl #[.slice Ao17 tm_.length co17, .int .i64 1] rfl sQ ?_; (with_reducible refine (laws_heldIntSS.calls kj3 _ _ tm_ 1 t572 _ ?side1 ?side2 A15.out).mono ?_); (case side1 => repeat (first | exact (Kd.S_reads' HO_5.out).2.2 | (with_reducible refine cA ?_ _) | (with_reducible refine cN ?_ _) | (with_reducible refine cD ?_))); (case side2 => exact (Kd.S_reads' HO_5.out).2.1); rintro e w' ⟨rfl, ⟨nd, rfl⟩⟩; refine ⟨_, rfl, ?_⟩))
     go_ret
     exact ⟨wQ, bQ⟩
    ·rw [if_neg c16] at H; have c16b0 := decide_eq_false c16; clear c16
     by_cases c18 : t572 = t571
     ·rw [if_pos c18] at H; have c18b0 : (t572 == t571) = true := beq_iff_eq.mpr c18; have c18b1 : (t572 != t571) = false := bne_eq_false_iff_eq.mpr c18; clear c18; replace H := bS H; obtain ⟨⟨t573, t574⟩, A19, H⟩ := H; have HC20 := aM H; clear H; obtain ⟨Ao21, co21, eo21⟩ := Kd.S_slice HO_5.out; subst eo21
      go_upto_region 14 with (first | ((with_reducible refine gC (f := 30) rfl ?_); refine goesL_ (some 32) rfl rfl Try.func30 kR rfl #[.slice Ao21 t566.length co21, .int .i64 1] rfl sQ ?_; (with_reducible refine (laws_markIntSS.calls kj3 (fun k_ => nb_ ≤ k_) _ t566 1 t571 tm_ w _ ?side1 ?side2 A14.out).mono ?_); (case side1 => repeat (first | (with_reducible first | exact HB.out | apply pA | apply pN | apply pD) | exact HB.out)); (case side2 => (with_reducible repeat (first | apply Kd.S_alloc | apply Kd.S_drewN | apply Kd.S_drew)); exact HO_5.out); rintro e wm_ ⟨rfl, hs_, hb, hk⟩; refine ⟨_, rfl, ?_⟩; have n0_ := aM (Kd.S_step (by (with_reducible repeat (first | apply Kd.S_alloc | apply Kd.S_drewN | apply Kd.S_drew)); exact HO_3.out) (fun k_ h_ hlt => hk.2 k_ hlt (fun h2_ => absurd h2_ (Nat.not_le.2 h_)))); have hl_ := (Kd.S_reads' hs_).1; rw [hl_] at hs_ ⊢; clear HO_3 HO_5 HB; have HO_3 := n0_; have HO_5 := aM hs_; have HB := aM hb; clear n0_ hs_ hb hk hl_) | ((with_reducible refine gC (f := 31) rfl ?_); refine goesL_ (some 35) rfl rfl Try.func31 kR rfl #[.slice Ao21 tm_.length co21, .int .i64 1] rfl sQ ?_; (with_reducible refine (laws_heldIntSS.calls kj3 _ _ tm_ 1 t572 _ ?side1 ?side2 A15.out).mono ?_); (case side1 => repeat (first | exact (Kd.S_reads' HO_5.out).2.2 | (with_reducible refine cA ?_ _) | (with_reducible refine cN ?_ _) | (with_reducible refine cD ?_))); (case side2 => exact (Kd.S_reads' HO_5.out).2.1); rintro e w' ⟨rfl, ⟨nd, rfl⟩⟩; refine ⟨_, rfl, ?_⟩) | ((with_reducible refine gC (f := 47) rfl ?_); refine goesL_ (some 43) rfl rfl Try.func47 kR rfl #[.int .i64 a0] rfl sQ ?_; (with_reducible refine (impl_KindsOfArea.calls kj3 a0 t573 t574 _ A19.out).mono ?_); rintro e w22 ⟨v575, rfl, ho0, hb⟩; refine ⟨_, rfl, ?_⟩; have HO576 := aM (Kd.S_lower (Kd.S_new' (Kd.S_new' ho0 (Kd.S_lt (by (with_reducible repeat (first | apply Kd.S_alloc | apply Kd.S_drewN | apply Kd.S_drew)); exact HO_3.out))) (Kd.S_lt (by (with_reducible repeat (first | apply Kd.S_alloc | apply Kd.S_drewN | apply Kd.S_drew)); exact HO_5.out))) (pZ bQ)); replace HO_3 := aM (Kd.S_elder' (by (with_reducible repeat (first | apply Kd.S_alloc | apply Kd.S_drewN | apply Kd.S_drew)); exact HO_3.out) (Kd.S_base ho0) hb); replace HO_5 := aM (Kd.S_elder' (by (with_reducible repeat (first | apply Kd.S_alloc | apply Kd.S_drewN | apply Kd.S_drew)); exact HO_5.out) (Kd.S_base ho0) hb); replace HB := tB HB hb; (try clear hb); (try clear hb2); (try clear hk); (try clear hi); (try clear ho0)))
      (try simp only [Act.put, sI, sZ, sS])
      go_cut [54] (fun v54 wc => ∃ (kq : Nat) (x54_19 : Bool), v54 = .bool x54_19 ∧ Aside0 (laws_FnExactKindsOfArea.j1 kq tm_ t571 x54_19 = some r) ∧ Aside0 (kq ≤ kj3) ∧ Aside0 (Kd.S (Kd.slice 3 (Kd.int .i64)) 77 wc w.heap.size (fun _ => True) (.slice Ao21 tm_.length co21) tm_) ∧ Aside0 (Below w.heap.size w wc))
      case first =>
       have H := HC20.out; clear HC20; replace H := bS H; obtain ⟨t577, A23, H⟩ := H
       by_cases c24 : t577 = true
       ·subst c24; replace H := iT H; have H' := aM H; clear H; obtain ⟨Ao25, co25, eo25⟩ := Kd.S_slice HO576.out; subst eo25; obtain ⟨Ao26, co26, eo26⟩ := Kd.S_slice HO_3.out; subst eo26
        go_wp2_with (first | ((with_reducible refine gC (f := 29) rfl ?_); refine goesL_ (some 48) rfl rfl Try.func29 kR rfl #[.slice Ao25 t573.length co25, .slice Ao26 t562.length co26] rfl sQ ?_; (with_reducible refine (laws_eqIntSS.calls kj3 _ _ t573 _ _ t562 true _ ?side1 ?side2 ?side3 ?side4 A23.out).mono ?_); (case side1 => repeat (first | exact (Kd.S_reads' HO576.out).2.2 | (with_reducible refine cA ?_ _) | (with_reducible refine cN ?_ _) | (with_reducible refine cD ?_))); (case side2 => exact (Kd.S_reads' HO576.out).2.1); (case side3 => repeat (first | exact (Kd.S_reads' HO_3.out).2.2 | (with_reducible refine cA ?_ _) | (with_reducible refine cN ?_ _) | (with_reducible refine cD ?_))); (case side4 => exact (Kd.S_reads' HO_3.out).2.1); rintro e w' ⟨rfl, ⟨nd, rfl⟩⟩; refine ⟨_, rfl, ?_⟩))
        go_meet
        case rel => exact ⟨_, ((t574 != t563)), eQ, H', ⟨by have := HJ3.out; first | omega | exact Nat.le_refl _⟩, ⟨by (with_reducible repeat (first | apply Kd.S_alloc | apply Kd.S_drewN | apply Kd.S_drew)); exact Kd.S_mono HO_5.out (fun _ hk => trivial)⟩, ⟨bQ⟩⟩
       ·replace c24 := Bool.eq_false_iff.mpr c24; subst c24; replace H := iF H; have H' := aM H; clear H; obtain ⟨Ao27, co27, eo27⟩ := Kd.S_slice HO576.out; subst eo27; obtain ⟨Ao28, co28, eo28⟩ := Kd.S_slice HO_3.out; subst eo28
        go_wp2_with (first | ((with_reducible refine gC (f := 29) rfl ?_); refine goesL_ (some 48) rfl rfl Try.func29 kR rfl #[.slice Ao27 t573.length co27, .slice Ao28 t562.length co28] rfl sQ ?_; (with_reducible refine (laws_eqIntSS.calls kj3 _ _ t573 _ _ t562 false _ ?side1 ?side2 ?side3 ?side4 A23.out).mono ?_); (case side1 => repeat (first | exact (Kd.S_reads' HO576.out).2.2 | (with_reducible refine cA ?_ _) | (with_reducible refine cN ?_ _) | (with_reducible refine cD ?_))); (case side2 => exact (Kd.S_reads' HO576.out).2.1); (case side3 => repeat (first | exact (Kd.S_reads' HO_3.out).2.2 | (with_reducible refine cA ?_ _) | (with_reducible refine cN ?_ _) | (with_reducible refine cD ?_))); (case side4 => exact (Kd.S_reads' HO_3.out).2.1); rintro e w' ⟨rfl, ⟨nd, rfl⟩⟩; refine ⟨_, rfl, ?_⟩))
        go_meet
        case rel => exact ⟨_, (true), eQ, H', ⟨by have := HJ3.out; first | omega | exact Nat.le_refl _⟩, ⟨by (with_reducible repeat (first | apply Kd.S_alloc | apply Kd.S_drewN | apply Kd.S_drew)); exact Kd.S_mono HO_5.out (fun _ hk => trivial)⟩, ⟨bQ⟩⟩
      case rest =>
       clear HC20; (try clear c13); (try clear c16); (try clear c16b0); (try clear c18); (try clear c18b0); (try clear c18b1); obtain ⟨kq, x54_19, rfl, HA, HJ19, HO_5, HB⟩ := hcut
       cases kq with
       | zero => exact absurd HA.out (by simp [laws_FnExactKindsOfArea.j1])
       | succ kj19 =>
        have H := HA.out; clear HA
        simp only [laws_FnExactKindsOfArea.j1] at H
        by_cases c29 : x54_19 = true
        ·subst c29; replace H := iT H; obtain rfl := Option.some.inj H; go_wp2
         go_ret
         exact ⟨wQ, bQ⟩
        ·replace c29 := Bool.eq_false_iff.mpr c29; subst c29; replace H := iF H; replace H := bS H; obtain ⟨t578, A30, H⟩ := H
         by_cases c31 : t578 < 0
         ·rw [if_pos c31] at H; have c31b0 := dE c31; clear c31; obtain rfl := Option.some.inj H
          go_wp2_with (first | ((with_reducible refine gC (f := 31) rfl ?_); refine goesL_ (some 57) rfl rfl Try.func31 kR rfl #[.slice Ao21 tm_.length co21, .int .i64 1] rfl sQ ?_; (with_reducible refine (laws_heldIntSS.calls kj19 _ _ tm_ 1 t578 _ ?side1 ?side2 A30.out).mono ?_); (case side1 => repeat (first | exact (Kd.S_reads' HO_5.out).2.2 | (with_reducible refine cA ?_ _) | (with_reducible refine cN ?_ _) | (with_reducible refine cD ?_))); (case side2 => exact (Kd.S_reads' HO_5.out).2.1); rintro e w' ⟨rfl, ⟨nd, rfl⟩⟩; refine ⟨_, rfl, ?_⟩))
          go_ret
          exact ⟨wQ, bQ⟩
         ·rw [if_neg c31] at H; have c31b0 := decide_eq_false c31; clear c31
          by_cases c32 : t578 = t571
          ·rw [if_pos c32] at H; have c32b0 : (t578 == t571) = true := beq_iff_eq.mpr c32; have c32b1 : (t578 != t571) = false := bne_eq_false_iff_eq.mpr c32; clear c32; obtain rfl := Option.some.inj H
           go_wp2_with (first | ((with_reducible refine gC (f := 31) rfl ?_); refine goesL_ (some 57) rfl rfl Try.func31 kR rfl #[.slice Ao21 tm_.length co21, .int .i64 1] rfl sQ ?_; (with_reducible refine (laws_heldIntSS.calls kj19 _ _ tm_ 1 t578 _ ?side1 ?side2 A30.out).mono ?_); (case side1 => repeat (first | exact (Kd.S_reads' HO_5.out).2.2 | (with_reducible refine cA ?_ _) | (with_reducible refine cN ?_ _) | (with_reducible refine cD ?_))); (case side2 => exact (Kd.S_reads' HO_5.out).2.1); rintro e w' ⟨rfl, ⟨nd, rfl⟩⟩; refine ⟨_, rfl, ?_⟩))
           go_ret
           exact ⟨wQ, bQ⟩
          ·rw [if_neg c32] at H; have c32b0 : (t578 == t571) = false := beq_eq_false_iff_ne.mpr c32; have c32b1 : (t578 != t571) = true := bne_iff_ne.mpr c32; obtain rfl := Option.some.inj H
           go_wp2_with (first | ((with_reducible refine gC (f := 31) rfl ?_); refine goesL_ (some 57) rfl rfl Try.func31 kR rfl #[.slice Ao21 tm_.length co21, .int .i64 1] rfl sQ ?_; (with_reducible refine (laws_heldIntSS.calls kj19 _ _ tm_ 1 t578 _ ?side1 ?side2 A30.out).mono ?_); (case side1 => repeat (first | exact (Kd.S_reads' HO_5.out).2.2 | (with_reducible refine cA ?_ _) | (with_reducible refine cN ?_ _) | (with_reducible refine cD ?_))); (case side2 => exact (Kd.S_reads' HO_5.out).2.1); rintro e w' ⟨rfl, ⟨nd, rfl⟩⟩; refine ⟨_, rfl, ?_⟩))
           go_ret
           exact ⟨wQ, bQ⟩
     ·rw [if_neg c18] at H; have c18b0 : (t572 == t571) = false := beq_eq_false_iff_ne.mpr c18; have c18b1 : (t572 != t571) = true := bne_iff_ne.mpr c18; obtain rfl := Option.some.inj H; obtain ⟨Ao33, co33, eo33⟩ := Kd.S_slice HO_5.out; subst eo33
      go_wp2_with (first | ((with_reducible refine gC (f := 30) rfl ?_); refine goesL_ (some 32) rfl rfl Try.func30 kR rfl #[.slice Ao33 t566.length co33, .int .i64 1] rfl sQ ?_; (with_reducible refine (laws_markIntSS.calls kj3 (fun k_ => nb_ ≤ k_) _ t566 1 t571 tm_ w _ ?side1 ?side2 A14.out).mono ?_); (case side1 => repeat (first | (with_reducible first | exact HB.out | apply pA | apply pN | apply pD) | exact HB.out)); (case side2 => (with_reducible repeat (first | apply Kd.S_alloc | apply Kd.S_drewN | apply Kd.S_drew)); exact HO_5.out); rintro e wm_ ⟨rfl, hs_, hb, hk⟩; refine ⟨_, rfl, ?_⟩; have n0_ := aM (Kd.S_step (by (with_reducible repeat (first | apply Kd.S_alloc | apply Kd.S_drewN | apply Kd.S_drew)); exact HO_3.out) (fun k_ h_ hlt => hk.2 k_ hlt (fun h2_ => absurd h2_ (Nat.not_le.2 h_)))); have hl_ := (Kd.S_reads' hs_).1; rw [hl_] at hs_ ⊢; clear HO_3 HO_5 HB; have HO_3 := n0_; have HO_5 := aM hs_; have HB := aM hb; clear n0_ hs_ hb hk hl_) | ((with_reducible refine gC (f := 31) rfl ?_); refine goesL_ (some 35) rfl rfl Try.func31 kR rfl #[.slice Ao33 tm_.length co33, .int .i64 1] rfl sQ ?_; (with_reducible refine (laws_heldIntSS.calls kj3 _ _ tm_ 1 t572 _ ?side1 ?side2 A15.out).mono ?_); (case side1 => repeat (first | exact (Kd.S_reads' HO_5.out).2.2 | (with_reducible refine cA ?_ _) | (with_reducible refine cN ?_ _) | (with_reducible refine cD ?_))); (case side2 => exact (Kd.S_reads' HO_5.out).2.1); rintro e w' ⟨rfl, ⟨nd, rfl⟩⟩; refine ⟨_, rfl, ?_⟩))
      go_ret
      exact ⟨wQ, bQ⟩

def laws_FnExactKindsOfArea.Pure : Prop := ∀ (a0 : Int), (Lit.int .i64 a0).wf = true → ∃ k, laws_FnExactKindsOfArea.f k a0 = some true

end Go.Proofs.Ytfihohongkfibaa.X
