-- thin
-- short
import Derived.Test.YtiacfkilmknldaaXA
import Derived.Test.YtiacfkilmknldaaX0
import Derived.Test.YtiacfkilmknldaaX2
namespace Go.Proofs.Ytiacfkilmknldaa.X
open Go.RowKit Go.Proofs.Ytiacfkilmknldaa.XW Go.Proofs.YtiacfkilmknldaaW.PrintWords Go.Proofs.YtiacfkilmknldaaW.PrintLast Go.Proofs.YtiacfkilmknldaaW.PrintMore
attribute [local go_sem] max2_int min2_int max_two min_two max_three min_three max_four min_four   -- for this text's walks alone
set_option linter.unusedVariables false
set_option linter.unusedSimpArgs false

mutual
def spec_pgWhere.l0 : Nat → List (S_impl_Peg) → Bool → List (S_impl_Peg) → Int → Int → Int → Int → Option (Int)
 | 0, _, _, _, _, _, _, _ => none
 | k + 1, x0, x5, x11, x12, x13, x277000, x277001 => if x13 < x12 then (if 0 ≤ x13 then (if x13 < (x11.length : Int) then (if (x0.length : Int) = 0 then (none) else (if 0 ≤ (Int.tmod (wrap64 (x13 + 1)) (x0.length : Int)) then (if (Int.tmod (wrap64 (x13 + 1)) (x0.length : Int)) < (x0.length : Int) then ((spec_pgOn.f ((rd_impl_Peg x11 x13).f0) ((rd_impl_Peg x11 x13).f1) ((rd_impl_Peg x0 (Int.tmod (wrap64 (x13 + 1)) (x0.length : Int))).f0) ((rd_impl_Peg x0 (Int.tmod (wrap64 (x13 + 1)) (x0.length : Int))).f1) x277000 x277001).bind fun t281 => (if t281 = true then (some 0) else (if ((rd_impl_Peg x11 x13).f1) > ((rd_impl_Peg x0 (Int.tmod (wrap64 (x13 + 1)) (x0.length : Int))).f1) then (spec_pgWhere.j1 k x0 x5 x11 x12 x13 x277000 x277001 ((rd_impl_Peg x0 (Int.tmod (wrap64 (x13 + 1)) (x0.length : Int))).f0) ((rd_impl_Peg x0 (Int.tmod (wrap64 (x13 + 1)) (x0.length : Int))).f1) ((rd_impl_Peg x11 x13).f0) ((rd_impl_Peg x11 x13).f1)) else (spec_pgWhere.j1 k x0 x5 x11 x12 x13 x277000 x277001 ((rd_impl_Peg x11 x13).f0) ((rd_impl_Peg x11 x13).f1) ((rd_impl_Peg x0 (Int.tmod (wrap64 (x13 + 1)) (x0.length : Int))).f0) ((rd_impl_Peg x0 (Int.tmod (wrap64 (x13 + 1)) (x0.length : Int))).f1))))) else (none)) else (none))) else (none)) else (none)) else (if x5 = true then (some 1) else (some (-1)))
def spec_pgWhere.j1 : Nat → List (S_impl_Peg) → Bool → List (S_impl_Peg) → Int → Int → Int → Int → Int → Int → Int → Int → Option (Int)
 | 0, _, _, _, _, _, _, _, _, _, _, _ => none
 | k + 1, x0, x5, x11, x12, x13, x277000, x277001, x283000, x283001, x284000, x284001 => if x283001 ≤ x277001 then (if x277001 < x284001 then ((spec_pgTurn.f x283000 x283001 x284000 x284001 x277000 x277001).bind fun t284 => (spec_pgWhere.j2 k x0 x5 x11 x12 x13 (decide (t284 > 0)) x277000 x277001)) else (spec_pgWhere.j2 k x0 x5 x11 x12 x13 false x277000 x277001)) else (spec_pgWhere.j2 k x0 x5 x11 x12 x13 false x277000 x277001)
def spec_pgWhere.j2 : Nat → List (S_impl_Peg) → Bool → List (S_impl_Peg) → Int → Int → Bool → Int → Int → Option (Int)
 | 0, _, _, _, _, _, _, _, _ => none
 | k + 1, x0, x5, x11, x12, x13, x57, x277000, x277001 => if x57 = true then (spec_pgWhere.l0 k x0 (!x5) x11 x12 (wrap64 (x13 + 1)) x277000 x277001) else (spec_pgWhere.l0 k x0 x5 x11 x12 (wrap64 (x13 + 1)) x277000 x277001)
end
def spec_pgWhere.f (k : Nat) (l0 : List (S_impl_Peg)) (a1_0 : Int) (a1_1 : Int) : Option (Int) := spec_pgWhere.l0 k l0 false l0 (l0.length : Int) 0 a1_0 a1_1
theorem spec_pgWhere.mono_l : ∀ k, (∀ y0 y1 y2 y3 y4 y5 y6, LeO (spec_pgWhere.l0 k y0 y1 y2 y3 y4 y5 y6) (spec_pgWhere.l0 (k + 1) y0 y1 y2 y3 y4 y5 y6)) ∧ (∀ y0 y1 y2 y3 y4 y5 y6 y7 y8 y9 y10, LeO (spec_pgWhere.j1 k y0 y1 y2 y3 y4 y5 y6 y7 y8 y9 y10) (spec_pgWhere.j1 (k + 1) y0 y1 y2 y3 y4 y5 y6 y7 y8 y9 y10)) ∧ (∀ y0 y1 y2 y3 y4 y5 y6 y7, LeO (spec_pgWhere.j2 k y0 y1 y2 y3 y4 y5 y6 y7) (spec_pgWhere.j2 (k + 1) y0 y1 y2 y3 y4 y5 y6 y7))
 | 0 => ⟨fun _ _ _ _ _ _ _ r h => by simp [spec_pgWhere.l0] at h, fun _ _ _ _ _ _ _ _ _ _ _ r h => by simp [spec_pgWhere.j1] at h, fun _ _ _ _ _ _ _ _ r h => by simp [spec_pgWhere.j2] at h⟩
 | k + 1 => by
  obtain ⟨ih0, ih1, ih2⟩ := spec_pgWhere.mono_l k
  refine ⟨?_, ?_, ?_⟩
  ·intro y0 y1 y2 y3 y4 y5 y6
   unfold spec_pgWhere.l0
   repeat' first
   | (with_reducible exact ih0 _ _ _ _ _ _ _)
   | (with_reducible exact ih1 _ _ _ _ _ _ _ _ _ _ _)
   | (with_reducible exact ih2 _ _ _ _ _ _ _ _)
   | (with_reducible exact LeO.refl _)
   | (with_reducible exact LeO.none _)
   | (with_reducible refine LeO.ite ?_ ?_)
   | (with_reducible refine LeO.bind ?_ (fun _ => ?_))
   | exact ih0 _ _ _ _ _ _ _
   | exact ih1 _ _ _ _ _ _ _ _ _ _ _
   | exact ih2 _ _ _ _ _ _ _ _
   | exact LeO.none _
   | refine LeO.ite ?_ ?_
   | refine LeO.bind ?_ (fun _ => ?_)
  ·intro y0 y1 y2 y3 y4 y5 y6 y7 y8 y9 y10
   unfold spec_pgWhere.j1
   repeat' first
   | (with_reducible exact ih0 _ _ _ _ _ _ _)
   | (with_reducible exact ih1 _ _ _ _ _ _ _ _ _ _ _)
   | (with_reducible exact ih2 _ _ _ _ _ _ _ _)
   | (with_reducible exact LeO.refl _)
   | (with_reducible exact LeO.none _)
   | (with_reducible refine LeO.ite ?_ ?_)
   | (with_reducible refine LeO.bind ?_ (fun _ => ?_))
   | exact ih0 _ _ _ _ _ _ _
   | exact ih1 _ _ _ _ _ _ _ _ _ _ _
   | exact ih2 _ _ _ _ _ _ _ _
   | exact LeO.none _
   | refine LeO.ite ?_ ?_
   | refine LeO.bind ?_ (fun _ => ?_)
  ·intro y0 y1 y2 y3 y4 y5 y6 y7
   unfold spec_pgWhere.j2
   repeat' first
   | (with_reducible exact ih0 _ _ _ _ _ _ _)
   | (with_reducible exact ih1 _ _ _ _ _ _ _ _ _ _ _)
   | (with_reducible exact ih2 _ _ _ _ _ _ _ _)
   | (with_reducible exact LeO.refl _)
   | (with_reducible exact LeO.none _)
   | (with_reducible refine LeO.ite ?_ ?_)
   | (with_reducible refine LeO.bind ?_ (fun _ => ?_))
   | exact ih0 _ _ _ _ _ _ _
   | exact ih1 _ _ _ _ _ _ _ _ _ _ _
   | exact ih2 _ _ _ _ _ _ _ _
   | exact LeO.none _
   | refine LeO.ite ?_ ?_
   | refine LeO.bind ?_ (fun _ => ?_)
theorem spec_pgWhere.mono : ∀ a0 a1 a2 k, LeO (spec_pgWhere.f k a0 a1 a2) (spec_pgWhere.f (k + 1) a0 a1 a2) := by
 intro a0 a1 a2 k
 obtain ⟨ih0, ih1, ih2⟩ := spec_pgWhere.mono_l k
 unfold spec_pgWhere.f
 repeat' first
   | (with_reducible exact ih0 _ _ _ _ _ _ _)
   | (with_reducible exact ih1 _ _ _ _ _ _ _ _ _ _ _)
   | (with_reducible exact ih2 _ _ _ _ _ _ _ _)
   | (with_reducible exact LeO.refl _)
   | (with_reducible exact LeO.none _)
   | (with_reducible refine LeO.ite ?_ ?_)
   | (with_reducible refine LeO.bind ?_ (fun _ => ?_))
   | exact ih0 _ _ _ _ _ _ _
   | exact ih1 _ _ _ _ _ _ _ _ _ _ _
   | exact ih2 _ _ _ _ _ _ _ _
   | exact LeO.none _
   | refine LeO.ite ?_ ?_
   | refine LeO.bind ?_ (fun _ => ?_)
set_option maxHeartbeats 8000000 in
set_option maxRecDepth 100000 in
theorem spec_pgWhere.calls (k : Nat) (A0 : Option Addr) (c0 : Nat) (l0 : List (S_impl_Peg)) (a1_0 : Int) (a1_1 : Int) (r : Int) (w : World) (hr0 : Kd.C kd_impl_Peg w A0 l0.length l0) (hc0 : l0.length ≤ c0) (h : spec_pgWhere.f k l0 a1_0 a1_1 = some r) :
  Calls Try.prog 88 #[.slice A0 l0.length c0, .agg #[.int .i64 a1_0, .int .i64 a1_1]] w fun e w' => e = .returned (.int .i64 r) ∧ Below w.heap.size w w' := by
 have hu34 := Try.underlying34
 have HR0 := aM hr0
 have HC0 := aM hc0
 clear hr0 hc0
 have HB := aM (Below.refl w.heap.size w)
 have H : (spec_pgWhere.l0 k l0 false l0 (l0.length : Int) 0 a1_0 a1_1) = some r := h
 clear h
 have H' := aM H
 clear H
 go_enter Try.func88, Try.ntmps88
 go_wp2_with (first | ((with_reducible refine gate_dst (N := 3) rfl ?_); refine box_event ?hg (N := 3) ?hd (cs := #[.int .i64 a1_0, .int .i64 a1_1]) (t := 34) ?hr ?_; (case hd => rfl); (case hg => rfl); (case hr => first | (go_simp; done) | (go_simp; rfl)); intro gb276 hg w3 hbox hb; have n0_ := aM (pT bQ hb); have n1_ := aM (hbox); have n2_ := aM ((by rw [hg]; exact (pZ bQ) : w.heap.size ≤ gb276)); have n3_ := aM ((by rw [hg]; exact (pZ bQ) : w.heap.size ≤ gb276)); clear HB; have HB := n0_; have BK276 := n1_; have GW276 := n2_; have GE276 := n3_; clear n0_ n1_ n2_ n3_; clear hb hbox hg))
 go_loopg [5, 13] k (fun kq v5 v13 w' => ∃ (x5_1 : Bool) (x13_1 : Int), v5 = .bool x5_1 ∧ v13 = .int .i64 x13_1 ∧ Aside0 (spec_pgWhere.l0 kq l0 x5_1 l0 (l0.length : Int) x13_1 a1_0 a1_1 = some r) ∧ Aside0 (kq ≤ k) ∧ Aside0 (w'.heap[gb276]? = some (.cells #[.int .i64 a1_0, .int .i64 a1_1] 34 (0, 0))) ∧ Aside0 (Below w.heap.size w w'))
 case atStart => exact ⟨(false), (0), eQ, eQ, H', ⟨Nat.le_refl _⟩, ⟨by (with_reducible repeat (first | refine kN ?_ _ | refine kD ?_ | refine kA ?_ _)); exact BK276.out⟩, ⟨by repeat (first | (with_reducible first | exact HB.out | apply pA | apply pN | apply pD | refine pS ?_ GE276.out) | exact HB.out)⟩⟩
 case round =>
  clear H'
  try clear p2
  obtain ⟨x5_1, x13_1, rfl, rfl, HA, HK1, BK276, HB⟩ := hrel
  cases gk with
  | zero => exact absurd HA.out (by simp [spec_pgWhere.l0])
  | succ k1 =>
   have H := HA.out
   clear HA
   simp only [spec_pgWhere.l0] at H
   by_cases c4 : x13_1 < (l0.length : Int)
   ·rw [if_pos c4] at H
    have c4b0 : decide (x13_1 < (l0.length : Int)) = true := dE c4
    clear c4
    by_cases c5 : 0 ≤ x13_1
    ·rw [if_pos c5] at H
     have c5b0 : decide (0 ≤ x13_1) = true := dE c5
     clear c5
     by_cases c6 : x13_1 < (l0.length : Int)
     ·rw [if_pos c6] at H
      have c6b0 : decide (x13_1 < (l0.length : Int)) = true := dE c6
      clear c6
      by_cases c7 : (l0.length : Int) = 0
      ·rw [if_pos c7] at H
       exact absurd H (by simp)
      ·rw [if_neg c7] at H
       have c7b0 : ((l0.length : Int) == 0) = false := beq_eq_false_iff_ne.mpr c7
       have c7b1 : ((l0.length : Int) != 0) = true := bne_iff_ne.mpr c7
       have c7b2 : ¬ (l0 = []) := fun h_ => c7 (by rw [h_]; rfl)
       obtain ⟨ji8, hji8⟩ : ∃ j_ : Int, (Int.tmod (wrap64 (x13_1 + 1)) (l0.length : Int)) = j_ := ⟨_, rfl⟩
       replace H : (if 0 ≤ (ji8) then (if (ji8) < (l0.length : Int) then ((spec_pgOn.f ((rd_impl_Peg l0 x13_1).f0) ((rd_impl_Peg l0 x13_1).f1) ((rd_impl_Peg l0 (ji8)).f0) ((rd_impl_Peg l0 (ji8)).f1) a1_0 a1_1).bind fun t281 => (if t281 = true then (some 0) else (if ((rd_impl_Peg l0 x13_1).f1) > ((rd_impl_Peg l0 (ji8)).f1) then (spec_pgWhere.j1 k1 l0 x5_1 l0 (l0.length : Int) x13_1 a1_0 a1_1 ((rd_impl_Peg l0 (ji8)).f0) ((rd_impl_Peg l0 (ji8)).f1) ((rd_impl_Peg l0 x13_1).f0) ((rd_impl_Peg l0 x13_1).f1)) else (spec_pgWhere.j1 k1 l0 x5_1 l0 (l0.length : Int) x13_1 a1_0 a1_1 ((rd_impl_Peg l0 x13_1).f0) ((rd_impl_Peg l0 x13_1).f1) ((rd_impl_Peg l0 (ji8)).f0) ((rd_impl_Peg l0 (ji8)).f1))))) else (none)) else (none)) = some r := by first | (rw [hji8] at H; exact H) | (simp only [hji8] at H ⊢; exact H)
       by_cases c9 : 0 ≤ (ji8)
       ·rw [if_pos c9] at H
        have c9b0 : decide (0 ≤ (ji8)) = true := dE c9
        clear c9
        by_cases c10 : (ji8) < (l0.length : Int)
        ·rw [if_pos c10] at H
         have c10b0 : decide ((ji8) < (l0.length : Int)) = true := dE c10
         clear c10
         replace H := oB.mp H
         obtain ⟨t281, A110, H⟩ := H
         replace H : (if t281 = true then (some 0) else (if ((rd_impl_Peg l0 x13_1).f1) > ((rd_impl_Peg l0 (ji8)).f1) then (spec_pgWhere.j1 k1 l0 x5_1 l0 (l0.length : Int) x13_1 a1_0 a1_1 ((rd_impl_Peg l0 (ji8)).f0) ((rd_impl_Peg l0 (ji8)).f1) ((rd_impl_Peg l0 x13_1).f0) ((rd_impl_Peg l0 x13_1).f1)) else (spec_pgWhere.j1 k1 l0 x5_1 l0 (l0.length : Int) x13_1 a1_0 a1_1 ((rd_impl_Peg l0 x13_1).f0) ((rd_impl_Peg l0 x13_1).f1) ((rd_impl_Peg l0 (ji8)).f0) ((rd_impl_Peg l0 (ji8)).f1)))) = some r := H
         have A11 := aM A110
         clear A110
         by_cases c12 : t281 = true
         ·subst c12
          have H1 : (some 0) = some r := by rw [if_pos rfl] at H; exact H
          clear H
          have H := H1
          clear H1
          obtain rfl := Option.some.inj H
          have p277 : 0 ≤ (x13_1 : Int) := dT aQ
          have q277 : x13_1 < (l0.length : Int) := dT aQ
          obtain ⟨ad277, e277, hx277_0, hx277_1⟩ := at_impl_Peg HR0.out x13_1 p277 q277
          cases e277
          replace hx277_0 := (HB.out.cell (wB w _ hx277_0)).trans hx277_0
          replace hx277_1 := (HB.out.cell (wB w _ hx277_1)).trans hx277_1
          replace p277 := eq_true p277
          replace q277 := eq_true q277
          go_wp2_with (first | ((with_reducible refine gate_dst (N := 7) rfl ?_); refine box_event ?hg (N := 7) ?hd (cs := #[.int .i64 0, .int .i64 0]) (t := 34) ?hr ?_; (case hd => rfl); (case hg => rfl); (case hr => first | (go_simp; done) | (go_simp; rfl)); intro gb278 hg w13 hbox hb; have n0_ := aM (blk_below (g := gb276) (o := .cells #[.int .i64 a1_0, .int .i64 a1_1] 34 (0, 0)) (gQ BK276) hb); have n1_ := aM (pT (by repeat (first | (with_reducible first | exact HB.out | apply pA | apply pN | apply pD | refine pS ?_ GE276.out) | exact HB.out)) hb); have n2_ := aM (hbox); have n3_ := aM ((by rw [hg]; exact (pZ (by repeat (first | (with_reducible first | exact HB.out | apply pA | apply pN | apply pD | refine pS ?_ GE276.out) | exact HB.out))) : w.heap.size ≤ gb278)); have n4_ := aM ((by rw [hg]; exact (pZ (by repeat (first | (with_reducible first | exact HB.out | apply pA | apply pN | apply pD | refine pS ?_ GE276.out) | exact HB.out))) : w.heap.size ≤ gb278)); have n5_ := aM ((by rw [hg]; exact nN (blk_lt (g := gb276) (o := .cells #[.int .i64 a1_0, .int .i64 a1_1] 34 (0, 0)) (gQ BK276)) : gb276 ≠ gb278)); have n6_ := aM ((by rw [hg]; exact Nat.ne_of_gt (blk_lt (g := gb276) (o := .cells #[.int .i64 a1_0, .int .i64 a1_1] 34 (0, 0)) (gQ BK276)) : gb278 ≠ gb276)); clear BK276; clear HB; have BK276 := n0_; have HB := n1_; have BK278 := n2_; have GW278 := n3_; have GE278 := n4_; have NB276_278 := n5_; have NB278_276 := n6_; clear n0_ n1_ n2_ n3_ n4_ n5_ n6_; clear hb hbox hg; have hnb14 := NB278_276.out; have hnc14 := NB276_278.out; have hcz15_0 : w13.cell? ⟨gb278, 0, none⟩ = some (.int .i64 0) := (kC BK278.out 0).trans rfl; have hcz15_1 : w13.cell? ⟨gb278, 1, none⟩ = some (.int .i64 0) := (kC BK278.out 1).trans rfl; have hfz15_0 := kF BK278.out 0; have hfz15_1 := kF BK278.out 1; have p279 : 0 ≤ ((ji8) : Int) := dT aQ; have q279 : (ji8) < (l0.length : Int) := dT aQ; obtain ⟨ad279, e279, hx279_0, hx279_1⟩ := at_impl_Peg HR0.out (ji8) p279 q279; obtain rfl : ad277 = ad279 := (by injection e279); have hn279_0 : ad277.block ≠ gb278 := nN (nL (by have := wB _ _ hx279_0; first | rwa [add_block] at this | exact this) GW278.out); have hn279_1 : ad277.block ≠ gb278 := nN (nL (by have := wB _ _ hx279_0; first | rwa [add_block] at this | exact this) GW278.out); replace hx279_0 := (HB.out.cell (wB w _ hx279_0)).trans hx279_0; replace hx279_1 := (HB.out.cell (wB w _ hx279_1)).trans hx279_1; replace hx279_0 := (cell_far (p := ⟨gb278, 0, none⟩) (by first | (rw [add_block]; exact hn279_0) | (show (Addr.add _ _).block ≠ _; rw [add_block]; exact hn279_0) | exact hn279_0) (.int .i64 ((rd_impl_Peg l0 x13_1).f0))).trans hx279_0; replace hx279_1 := (cell_far (p := ⟨gb278, 0, none⟩) (by first | (rw [add_block]; exact hn279_0) | (show (Addr.add _ _).block ≠ _; rw [add_block]; exact hn279_0) | exact hn279_0) (.int .i64 ((rd_impl_Peg l0 x13_1).f0))).trans hx279_1; replace hx279_0 := (cell_far (p := ⟨gb278, 1, none⟩) (by first | (rw [add_block]; exact hn279_1) | (show (Addr.add _ _).block ≠ _; rw [add_block]; exact hn279_1) | exact hn279_1) (.int .i64 ((rd_impl_Peg l0 x13_1).f1))).trans hx279_0; replace hx279_1 := (cell_far (p := ⟨gb278, 1, none⟩) (by first | (rw [add_block]; exact hn279_1) | (show (Addr.add _ _).block ≠ _; rw [add_block]; exact hn279_1) | exact hn279_1) (.int .i64 ((rd_impl_Peg l0 x13_1).f1))).trans hx279_1; clear hn279_0; clear hn279_1; replace p279 := eq_true p279; replace q279 := eq_true q279) | ((with_reducible refine gate_dst (N := 8) rfl ?_); refine box_event ?hg (N := 8) ?hd (cs := #[.int .i64 0, .int .i64 0]) (t := 34) ?hr ?_; (case hd => rfl); (case hg => rfl); (case hr => first | (go_simp; done) | (go_simp; rfl)); intro gb280 hg w16 hbox hb; have n0_ := aM (blk_below (g := gb276) (o := .cells #[.int .i64 a1_0, .int .i64 a1_1] 34 (0, 0)) (by (with_reducible repeat (first | refine kN ?_ _ | refine kD ?_ | refine kA ?_ _)); refine blk_far ?_ NB276_278.out _; (with_reducible repeat (first | refine kN ?_ _ | refine kD ?_ | refine kA ?_ _)); refine blk_far ?_ NB276_278.out _; (with_reducible repeat (first | refine kN ?_ _ | refine kD ?_ | refine kA ?_ _)); exact BK276.out) hb); have n1_ := aM (blk_below (g := gb278) (o := .cells #[.int .i64 ((rd_impl_Peg l0 x13_1).f0), .int .i64 ((rd_impl_Peg l0 x13_1).f1)] 34 (0, 0)) (by (with_reducible repeat (first | refine kN ?_ _ | refine kD ?_ | refine kA ?_ _)); refine blk_put (cs := #[.int .i64 ((rd_impl_Peg l0 x13_1).f0), .int .i64 0]) ?_ 1 _ rfl; (with_reducible repeat (first | refine kN ?_ _ | refine kD ?_ | refine kA ?_ _)); refine blk_put (cs := #[.int .i64 0, .int .i64 0]) ?_ 0 _ rfl; (with_reducible repeat (first | refine kN ?_ _ | refine kD ?_ | refine kA ?_ _)); exact BK278.out) hb); have n2_ := aM (pT (by repeat (first | (with_reducible first | exact HB.out | apply pA | apply pN | apply pD | refine pS ?_ GE276.out | refine pS ?_ GE278.out) | exact HB.out)) hb); have n3_ := aM (hbox); have n4_ := aM ((by rw [hg]; exact (pZ (by repeat (first | (with_reducible first | exact HB.out | apply pA | apply pN | apply pD | refine pS ?_ GE276.out | refine pS ?_ GE278.out) | exact HB.out))) : w.heap.size ≤ gb280)); have n5_ := aM ((by rw [hg]; exact (pZ (by repeat (first | (with_reducible first | exact HB.out | apply pA | apply pN | apply pD | refine pS ?_ GE276.out | refine pS ?_ GE278.out) | exact HB.out))) : w.heap.size ≤ gb280)); have n6_ := aM ((by rw [hg]; exact nN (blk_lt (g := gb276) (o := .cells #[.int .i64 a1_0, .int .i64 a1_1] 34 (0, 0)) (by (with_reducible repeat (first | refine kN ?_ _ | refine kD ?_ | refine kA ?_ _)); refine blk_far ?_ NB276_278.out _; (with_reducible repeat (first | refine kN ?_ _ | refine kD ?_ | refine kA ?_ _)); refine blk_far ?_ NB276_278.out _; (with_reducible repeat (first | refine kN ?_ _ | refine kD ?_ | refine kA ?_ _)); exact BK276.out)) : gb276 ≠ gb280)); have n7_ := aM ((by rw [hg]; exact Nat.ne_of_gt (blk_lt (g := gb276) (o := .cells #[.int .i64 a1_0, .int .i64 a1_1] 34 (0, 0)) (by (with_reducible repeat (first | refine kN ?_ _ | refine kD ?_ | refine kA ?_ _)); refine blk_far ?_ NB276_278.out _; (with_reducible repeat (first | refine kN ?_ _ | refine kD ?_ | refine kA ?_ _)); refine blk_far ?_ NB276_278.out _; (with_reducible repeat (first | refine kN ?_ _ | refine kD ?_ | refine kA ?_ _)); exact BK276.out)) : gb280 ≠ gb276)); have n8_ := aM ((by rw [hg]; exact nN (blk_lt (g := gb278) (o := .cells #[.int .i64 ((rd_impl_Peg l0 x13_1).f0), .int .i64 ((rd_impl_Peg l0 x13_1).f1)] 34 (0, 0)) (by (with_reducible repeat (first | refine kN ?_ _ | refine kD ?_ | refine kA ?_ _)); refine blk_put (cs := #[.int .i64 ((rd_impl_Peg l0 x13_1).f0), .int .i64 0]) ?_ 1 _ rfl; (with_reducible repeat (first | refine kN ?_ _ | refine kD ?_ | refine kA ?_ _)); refine blk_put (cs := #[.int .i64 0, .int .i64 0]) ?_ 0 _ rfl; (with_reducible repeat (first | refine kN ?_ _ | refine kD ?_ | refine kA ?_ _)); exact BK278.out)) : gb278 ≠ gb280)); have n9_ := aM ((by rw [hg]; exact Nat.ne_of_gt (blk_lt (g := gb278) (o := .cells #[.int .i64 ((rd_impl_Peg l0 x13_1).f0), .int .i64 ((rd_impl_Peg l0 x13_1).f1)] 34 (0, 0)) (by (with_reducible repeat (first | refine kN ?_ _ | refine kD ?_ | refine kA ?_ _)); refine blk_put (cs := #[.int .i64 ((rd_impl_Peg l0 x13_1).f0), .int .i64 0]) ?_ 1 _ rfl; (with_reducible repeat (first | refine kN ?_ _ | refine kD ?_ | refine kA ?_ _)); refine blk_put (cs := #[.int .i64 0, .int .i64 0]) ?_ 0 _ rfl; (with_reducible repeat (first | refine kN ?_ _ | refine kD ?_ | refine kA ?_ _)); exact BK278.out)) : gb280 ≠ gb278)); clear BK276; clear BK278; clear HB; have BK276 := n0_; have BK278 := n1_; have HB := n2_; have BK280 := n3_; have GW280 := n4_; have GE280 := n5_; have NB276_280 := n6_; have NB280_276 := n7_; have NB278_280 := n8_; have NB280_278 := n9_; clear n0_ n1_ n2_ n3_ n4_ n5_ n6_ n7_ n8_ n9_; clear hb hbox hg; have hnb17 := NB280_276.out; have hnc17 := NB276_280.out; have hnb18 := NB280_278.out; have hnc18 := NB278_280.out; have hcz19_0 : w16.cell? ⟨gb280, 0, none⟩ = some (.int .i64 0) := (kC BK280.out 0).trans rfl; have hcz19_1 : w16.cell? ⟨gb280, 1, none⟩ = some (.int .i64 0) := (kC BK280.out 1).trans rfl; have hfz19_0 := kF BK280.out 0; have hfz19_1 := kF BK280.out 1; have hcz20_0 : w16.cell? ⟨gb278, 0, none⟩ = some (.int .i64 ((rd_impl_Peg l0 x13_1).f0)) := (kC BK278.out 0).trans rfl; have hcz20_1 : w16.cell? ⟨gb278, 1, none⟩ = some (.int .i64 ((rd_impl_Peg l0 x13_1).f1)) := (kC BK278.out 1).trans rfl; have hfz20_0 := kF BK278.out 0; have hfz20_1 := kF BK278.out 1; have hcz21_0 : w16.cell? ⟨gb276, 0, none⟩ = some (.int .i64 a1_0) := (kC BK276.out 0).trans rfl; have hcz21_1 : w16.cell? ⟨gb276, 1, none⟩ = some (.int .i64 a1_1) := (kC BK276.out 1).trans rfl; have hfz21_0 := kF BK276.out 0; have hfz21_1 := kF BK276.out 1) | ((with_reducible refine gC (f := 140) rfl ?_); refine goesL_ (some 29) rfl rfl Try.func140 kR rfl #[.agg #[.int .i64 ((rd_impl_Peg l0 x13_1).f0), .int .i64 ((rd_impl_Peg l0 x13_1).f1)], .agg #[.int .i64 ((rd_impl_Peg l0 (ji8)).f0), .int .i64 ((rd_impl_Peg l0 (ji8)).f1)], .agg #[.int .i64 a1_0, .int .i64 a1_1]] rfl (by (try simp only [mA, mC, mN]); first | done | (simp only [hji8]; rfl) | rfl | (simp only [lD, lT]; rfl)) ?_; (with_reducible refine (spec_pgOn.calls ((rd_impl_Peg l0 x13_1).f0) ((rd_impl_Peg l0 x13_1).f1) ((rd_impl_Peg l0 (ji8)).f0) ((rd_impl_Peg l0 (ji8)).f1) a1_0 a1_1 true _ A11.out).mono ?_); rintro e w22 ⟨rfl, hb⟩; refine ⟨_, rfl, ?_⟩; have n0_ := aM (blk_below (g := gb276) (o := .cells #[.int .i64 a1_0, .int .i64 a1_1] 34 (0, 0)) (by (with_reducible repeat (first | refine kN ?_ _ | refine kD ?_ | refine kA ?_ _)); refine blk_far ?_ NB276_280.out _; (with_reducible repeat (first | refine kN ?_ _ | refine kD ?_ | refine kA ?_ _)); refine blk_far ?_ NB276_280.out _; (with_reducible repeat (first | refine kN ?_ _ | refine kD ?_ | refine kA ?_ _)); exact BK276.out) hb); have n1_ := aM (blk_below (g := gb278) (o := .cells #[.int .i64 ((rd_impl_Peg l0 x13_1).f0), .int .i64 ((rd_impl_Peg l0 x13_1).f1)] 34 (0, 0)) (by (with_reducible repeat (first | refine kN ?_ _ | refine kD ?_ | refine kA ?_ _)); refine blk_far ?_ NB278_280.out _; (with_reducible repeat (first | refine kN ?_ _ | refine kD ?_ | refine kA ?_ _)); refine blk_far ?_ NB278_280.out _; (with_reducible repeat (first | refine kN ?_ _ | refine kD ?_ | refine kA ?_ _)); exact BK278.out) hb); have n2_ := aM (blk_below (g := gb280) (o := .cells #[.int .i64 ((rd_impl_Peg l0 (ji8)).f0), .int .i64 ((rd_impl_Peg l0 (ji8)).f1)] 34 (0, 0)) (by (with_reducible repeat (first | refine kN ?_ _ | refine kD ?_ | refine kA ?_ _)); refine blk_put (cs := #[.int .i64 ((rd_impl_Peg l0 (ji8)).f0), .int .i64 0]) ?_ 1 _ rfl; (with_reducible repeat (first | refine kN ?_ _ | refine kD ?_ | refine kA ?_ _)); refine blk_put (cs := #[.int .i64 0, .int .i64 0]) ?_ 0 _ rfl; (with_reducible repeat (first | refine kN ?_ _ | refine kD ?_ | refine kA ?_ _)); exact BK280.out) hb); have n3_ := aM (pT (by repeat (first | (with_reducible first | exact HB.out | apply pA | apply pN | apply pD | refine pS ?_ GE276.out | refine pS ?_ GE278.out | refine pS ?_ GE280.out) | exact HB.out)) hb); clear BK276; clear BK278; clear BK280; clear HB; have BK276 := n0_; have BK278 := n1_; have BK280 := n2_; have HB := n3_; clear n0_ n1_ n2_ n3_; (try clear hb); (try clear hb2); (try clear hk); (try clear hi)))
          go_ret
          exact ⟨by first | rfl | (simp [errW_none, errW_some] <;> rfl) | (simp only [← hji8]; first | rfl | (simp [errW_none, errW_some] <;> rfl)) | (simp [*, errW_none, errW_some] <;> rfl), by repeat (first | (with_reducible first | exact HB.out | apply pA | apply pN | apply pD | refine pS ?_ GE276.out | refine pS ?_ GE278.out | refine pS ?_ GE280.out) | exact HB.out)⟩
         ·replace c12 := Bool.eq_false_iff.mpr c12
          subst c12
          have H1 : (if ((rd_impl_Peg l0 x13_1).f1) > ((rd_impl_Peg l0 (ji8)).f1) then (spec_pgWhere.j1 k1 l0 x5_1 l0 (l0.length : Int) x13_1 a1_0 a1_1 ((rd_impl_Peg l0 (ji8)).f0) ((rd_impl_Peg l0 (ji8)).f1) ((rd_impl_Peg l0 x13_1).f0) ((rd_impl_Peg l0 x13_1).f1)) else (spec_pgWhere.j1 k1 l0 x5_1 l0 (l0.length : Int) x13_1 a1_0 a1_1 ((rd_impl_Peg l0 x13_1).f0) ((rd_impl_Peg l0 x13_1).f1) ((rd_impl_Peg l0 (ji8)).f0) ((rd_impl_Peg l0 (ji8)).f1))) = some r := by rw [if_neg (show ¬ (false = true) by decide)] at H; exact H
          clear H
          have H := H1
          clear H1
          have HC23 := aM H
          clear H
          have p277 : 0 ≤ (x13_1 : Int) := dT aQ
          have q277 : x13_1 < (l0.length : Int) := dT aQ
          obtain ⟨ad277, e277, hx277_0, hx277_1⟩ := at_impl_Peg HR0.out x13_1 p277 q277
          cases e277
          replace hx277_0 := (HB.out.cell (wB w _ hx277_0)).trans hx277_0
          replace hx277_1 := (HB.out.cell (wB w _ hx277_1)).trans hx277_1
          replace p277 := eq_true p277
          replace q277 := eq_true q277
          try go_wp2_with (first | ((with_reducible refine gate_dst (N := 7) rfl ?_); refine box_event ?hg (N := 7) ?hd (cs := #[.int .i64 0, .int .i64 0]) (t := 34) ?hr ?_; (case hd => rfl); (case hg => rfl); (case hr => first | (go_simp; done) | (go_simp; rfl)); intro gb278 hg w24 hbox hb; have n0_ := aM (blk_below (g := gb276) (o := .cells #[.int .i64 a1_0, .int .i64 a1_1] 34 (0, 0)) (gQ BK276) hb); have n1_ := aM (pT (by repeat (first | (with_reducible first | exact HB.out | apply pA | apply pN | apply pD | refine pS ?_ GE276.out) | exact HB.out)) hb); have n2_ := aM (hbox); have n3_ := aM ((by rw [hg]; exact (pZ (by repeat (first | (with_reducible first | exact HB.out | apply pA | apply pN | apply pD | refine pS ?_ GE276.out) | exact HB.out))) : w.heap.size ≤ gb278)); have n4_ := aM ((by rw [hg]; exact (pZ (by repeat (first | (with_reducible first | exact HB.out | apply pA | apply pN | apply pD | refine pS ?_ GE276.out) | exact HB.out))) : w.heap.size ≤ gb278)); have n5_ := aM ((by rw [hg]; exact nN (blk_lt (g := gb276) (o := .cells #[.int .i64 a1_0, .int .i64 a1_1] 34 (0, 0)) (gQ BK276)) : gb276 ≠ gb278)); have n6_ := aM ((by rw [hg]; exact Nat.ne_of_gt (blk_lt (g := gb276) (o := .cells #[.int .i64 a1_0, .int .i64 a1_1] 34 (0, 0)) (gQ BK276)) : gb278 ≠ gb276)); clear BK276; clear HB; have BK276 := n0_; have HB := n1_; have BK278 := n2_; have GW278 := n3_; have GE278 := n4_; have NB276_278 := n5_; have NB278_276 := n6_; clear n0_ n1_ n2_ n3_ n4_ n5_ n6_; clear hb hbox hg; have hnb25 := NB278_276.out; have hnc25 := NB276_278.out; have hcz26_0 : w24.cell? ⟨gb278, 0, none⟩ = some (.int .i64 0) := (kC BK278.out 0).trans rfl; have hcz26_1 : w24.cell? ⟨gb278, 1, none⟩ = some (.int .i64 0) := (kC BK278.out 1).trans rfl; have hfz26_0 := kF BK278.out 0; have hfz26_1 := kF BK278.out 1; have p279 : 0 ≤ ((ji8) : Int) := dT aQ; have q279 : (ji8) < (l0.length : Int) := dT aQ; obtain ⟨ad279, e279, hx279_0, hx279_1⟩ := at_impl_Peg HR0.out (ji8) p279 q279; obtain rfl : ad277 = ad279 := (by injection e279); have hn279_0 : ad277.block ≠ gb278 := nN (nL (by have := wB _ _ hx279_0; first | rwa [add_block] at this | exact this) GW278.out); have hn279_1 : ad277.block ≠ gb278 := nN (nL (by have := wB _ _ hx279_0; first | rwa [add_block] at this | exact this) GW278.out); replace hx279_0 := (HB.out.cell (wB w _ hx279_0)).trans hx279_0; replace hx279_1 := (HB.out.cell (wB w _ hx279_1)).trans hx279_1; replace hx279_0 := (cell_far (p := ⟨gb278, 0, none⟩) (by first | (rw [add_block]; exact hn279_0) | (show (Addr.add _ _).block ≠ _; rw [add_block]; exact hn279_0) | exact hn279_0) (.int .i64 ((rd_impl_Peg l0 x13_1).f0))).trans hx279_0; replace hx279_1 := (cell_far (p := ⟨gb278, 0, none⟩) (by first | (rw [add_block]; exact hn279_0) | (show (Addr.add _ _).block ≠ _; rw [add_block]; exact hn279_0) | exact hn279_0) (.int .i64 ((rd_impl_Peg l0 x13_1).f0))).trans hx279_1; replace hx279_0 := (cell_far (p := ⟨gb278, 1, none⟩) (by first | (rw [add_block]; exact hn279_1) | (show (Addr.add _ _).block ≠ _; rw [add_block]; exact hn279_1) | exact hn279_1) (.int .i64 ((rd_impl_Peg l0 x13_1).f1))).trans hx279_0; replace hx279_1 := (cell_far (p := ⟨gb278, 1, none⟩) (by first | (rw [add_block]; exact hn279_1) | (show (Addr.add _ _).block ≠ _; rw [add_block]; exact hn279_1) | exact hn279_1) (.int .i64 ((rd_impl_Peg l0 x13_1).f1))).trans hx279_1; clear hn279_0; clear hn279_1; replace p279 := eq_true p279; replace q279 := eq_true q279) | ((with_reducible refine gate_dst (N := 8) rfl ?_); refine box_event ?hg (N := 8) ?hd (cs := #[.int .i64 0, .int .i64 0]) (t := 34) ?hr ?_; (case hd => rfl); (case hg => rfl); (case hr => first | (go_simp; done) | (go_simp; rfl)); intro gb280 hg w27 hbox hb; have n0_ := aM (blk_below (g := gb276) (o := .cells #[.int .i64 a1_0, .int .i64 a1_1] 34 (0, 0)) (by (with_reducible repeat (first | refine kN ?_ _ | refine kD ?_ | refine kA ?_ _)); refine blk_far ?_ NB276_278.out _; (with_reducible repeat (first | refine kN ?_ _ | refine kD ?_ | refine kA ?_ _)); refine blk_far ?_ NB276_278.out _; (with_reducible repeat (first | refine kN ?_ _ | refine kD ?_ | refine kA ?_ _)); exact BK276.out) hb); have n1_ := aM (blk_below (g := gb278) (o := .cells #[.int .i64 ((rd_impl_Peg l0 x13_1).f0), .int .i64 ((rd_impl_Peg l0 x13_1).f1)] 34 (0, 0)) (by (with_reducible repeat (first | refine kN ?_ _ | refine kD ?_ | refine kA ?_ _)); refine blk_put (cs := #[.int .i64 ((rd_impl_Peg l0 x13_1).f0), .int .i64 0]) ?_ 1 _ rfl; (with_reducible repeat (first | refine kN ?_ _ | refine kD ?_ | refine kA ?_ _)); refine blk_put (cs := #[.int .i64 0, .int .i64 0]) ?_ 0 _ rfl; (with_reducible repeat (first | refine kN ?_ _ | refine kD ?_ | refine kA ?_ _)); exact BK278.out) hb); have n2_ := aM (pT (by repeat (first | (with_reducible first | exact HB.out | apply pA | apply pN | apply pD | refine pS ?_ GE276.out | refine pS ?_ GE278.out) | exact HB.out)) hb); have n3_ := aM (hbox); have n4_ := aM ((by rw [hg]; exact (pZ (by repeat (first | (with_reducible first | exact HB.out | apply pA | apply pN | apply pD | refine pS ?_ GE276.out | refine pS ?_ GE278.out) | exact HB.out))) : w.heap.size ≤ gb280)); have n5_ := aM ((by rw [hg]; exact (pZ (by repeat (first | (with_reducible first | exact HB.out | apply pA | apply pN | apply pD | refine pS ?_ GE276.out | refine pS ?_ GE278.out) | exact HB.out))) : w.heap.size ≤ gb280)); have n6_ := aM ((by rw [hg]; exact nN (blk_lt (g := gb276) (o := .cells #[.int .i64 a1_0, .int .i64 a1_1] 34 (0, 0)) (by (with_reducible repeat (first | refine kN ?_ _ | refine kD ?_ | refine kA ?_ _)); refine blk_far ?_ NB276_278.out _; (with_reducible repeat (first | refine kN ?_ _ | refine kD ?_ | refine kA ?_ _)); refine blk_far ?_ NB276_278.out _; (with_reducible repeat (first | refine kN ?_ _ | refine kD ?_ | refine kA ?_ _)); exact BK276.out)) : gb276 ≠ gb280)); have n7_ := aM ((by rw [hg]; exact Nat.ne_of_gt (blk_lt (g := gb276) (o := .cells #[.int .i64 a1_0, .int .i64 a1_1] 34 (0, 0)) (by (with_reducible repeat (first | refine kN ?_ _ | refine kD ?_ | refine kA ?_ _)); refine blk_far ?_ NB276_278.out _; (with_reducible repeat (first | refine kN ?_ _ | refine kD ?_ | refine kA ?_ _)); refine blk_far ?_ NB276_278.out _; (with_reducible repeat (first | refine kN ?_ _ | refine kD ?_ | refine kA ?_ _)); exact BK276.out)) : gb280 ≠ gb276)); have n8_ := aM ((by rw [hg]; exact nN (blk_lt (g := gb278) (o := .cells #[.int .i64 ((rd_impl_Peg l0 x13_1).f0), .int .i64 ((rd_impl_Peg l0 x13_1).f1)] 34 (0, 0)) (by (with_reducible repeat (first | refine kN ?_ _ | refine kD ?_ | refine kA ?_ _)); refine blk_put (cs := #[.int .i64 ((rd_impl_Peg l0 x13_1).f0), .int .i64 0]) ?_ 1 _ rfl; (with_reducible repeat (first | refine kN ?_ _ | refine kD ?_ | refine kA ?_ _)); refine blk_put (cs := #[.int .i64 0, .int .i64 0]) ?_ 0 _ rfl; (with_reducible repeat (first | refine kN ?_ _ | refine kD ?_ | refine kA ?_ _)); exact BK278.out)) : gb278 ≠ gb280)); have n9_ := aM ((by rw [hg]; exact Nat.ne_of_gt (blk_lt (g := gb278) (o := .cells #[.int .i64 ((rd_impl_Peg l0 x13_1).f0), .int .i64 ((rd_impl_Peg l0 x13_1).f1)] 34 (0, 0)) (by (with_reducible repeat (first | refine kN ?_ _ | refine kD ?_ | refine kA ?_ _)); refine blk_put (cs := #[.int .i64 ((rd_impl_Peg l0 x13_1).f0), .int .i64 0]) ?_ 1 _ rfl; (with_reducible repeat (first | refine kN ?_ _ | refine kD ?_ | refine kA ?_ _)); refine blk_put (cs := #[.int .i64 0, .int .i64 0]) ?_ 0 _ rfl; (with_reducible repeat (first | refine kN ?_ _ | refine kD ?_ | refine kA ?_ _)); exact BK278.out)) : gb280 ≠ gb278)); clear BK276; clear BK278; clear HB; have BK276 := n0_; have BK278 := n1_; have HB := n2_; have BK280 := n3_; have GW280 := n4_; have GE280 := n5_; have NB276_280 := n6_; have NB280_276 := n7_; have NB278_280 := n8_; have NB280_278 := n9_; clear n0_ n1_ n2_ n3_ n4_ n5_ n6_ n7_ n8_ n9_; clear hb hbox hg; have hnb28 := NB280_276.out; have hnc28 := NB276_280.out; have hnb29 := NB280_278.out; have hnc29 := NB278_280.out; have hcz30_0 : w27.cell? ⟨gb280, 0, none⟩ = some (.int .i64 0) := (kC BK280.out 0).trans rfl; have hcz30_1 : w27.cell? ⟨gb280, 1, none⟩ = some (.int .i64 0) := (kC BK280.out 1).trans rfl; have hfz30_0 := kF BK280.out 0; have hfz30_1 := kF BK280.out 1; have hcz31_0 : w27.cell? ⟨gb278, 0, none⟩ = some (.int .i64 ((rd_impl_Peg l0 x13_1).f0)) := (kC BK278.out 0).trans rfl; have hcz31_1 : w27.cell? ⟨gb278, 1, none⟩ = some (.int .i64 ((rd_impl_Peg l0 x13_1).f1)) := (kC BK278.out 1).trans rfl; have hfz31_0 := kF BK278.out 0; have hfz31_1 := kF BK278.out 1; have hcz32_0 : w27.cell? ⟨gb276, 0, none⟩ = some (.int .i64 a1_0) := (kC BK276.out 0).trans rfl; have hcz32_1 : w27.cell? ⟨gb276, 1, none⟩ = some (.int .i64 a1_1) := (kC BK276.out 1).trans rfl; have hfz32_0 := kF BK276.out 0; have hfz32_1 := kF BK276.out 1) | ((with_reducible refine gC (f := 140) rfl ?_); refine goesL_ (some 29) rfl rfl Try.func140 kR rfl #[.agg #[.int .i64 ((rd_impl_Peg l0 x13_1).f0), .int .i64 ((rd_impl_Peg l0 x13_1).f1)], .agg #[.int .i64 ((rd_impl_Peg l0 (ji8)).f0), .int .i64 ((rd_impl_Peg l0 (ji8)).f1)], .agg #[.int .i64 a1_0, .int .i64 a1_1]] rfl (by (try simp only [mA, mC, mN]); first | done | (simp only [hji8]; rfl) | rfl | (simp only [lD, lT]; rfl)) ?_; (with_reducible refine (spec_pgOn.calls ((rd_impl_Peg l0 x13_1).f0) ((rd_impl_Peg l0 x13_1).f1) ((rd_impl_Peg l0 (ji8)).f0) ((rd_impl_Peg l0 (ji8)).f1) a1_0 a1_1 false _ A11.out).mono ?_); rintro e w33 ⟨rfl, hb⟩; refine ⟨_, rfl, ?_⟩; have n0_ := aM (blk_below (g := gb276) (o := .cells #[.int .i64 a1_0, .int .i64 a1_1] 34 (0, 0)) (by (with_reducible repeat (first | refine kN ?_ _ | refine kD ?_ | refine kA ?_ _)); refine blk_far ?_ NB276_280.out _; (with_reducible repeat (first | refine kN ?_ _ | refine kD ?_ | refine kA ?_ _)); refine blk_far ?_ NB276_280.out _; (with_reducible repeat (first | refine kN ?_ _ | refine kD ?_ | refine kA ?_ _)); exact BK276.out) hb); have n1_ := aM (blk_below (g := gb278) (o := .cells #[.int .i64 ((rd_impl_Peg l0 x13_1).f0), .int .i64 ((rd_impl_Peg l0 x13_1).f1)] 34 (0, 0)) (by (with_reducible repeat (first | refine kN ?_ _ | refine kD ?_ | refine kA ?_ _)); refine blk_far ?_ NB278_280.out _; (with_reducible repeat (first | refine kN ?_ _ | refine kD ?_ | refine kA ?_ _)); refine blk_far ?_ NB278_280.out _; (with_reducible repeat (first | refine kN ?_ _ | refine kD ?_ | refine kA ?_ _)); exact BK278.out) hb); have n2_ := aM (blk_below (g := gb280) (o := .cells #[.int .i64 ((rd_impl_Peg l0 (ji8)).f0), .int .i64 ((rd_impl_Peg l0 (ji8)).f1)] 34 (0, 0)) (by (with_reducible repeat (first | refine kN ?_ _ | refine kD ?_ | refine kA ?_ _)); refine blk_put (cs := #[.int .i64 ((rd_impl_Peg l0 (ji8)).f0), .int .i64 0]) ?_ 1 _ rfl; (with_reducible repeat (first | refine kN ?_ _ | refine kD ?_ | refine kA ?_ _)); refine blk_put (cs := #[.int .i64 0, .int .i64 0]) ?_ 0 _ rfl; (with_reducible repeat (first | refine kN ?_ _ | refine kD ?_ | refine kA ?_ _)); exact BK280.out) hb); have n3_ := aM (pT (by repeat (first | (with_reducible first | exact HB.out | apply pA | apply pN | apply pD | refine pS ?_ GE276.out | refine pS ?_ GE278.out | refine pS ?_ GE280.out) | exact HB.out)) hb); clear BK276; clear BK278; clear BK280; clear HB; have BK276 := n0_; have BK278 := n1_; have BK280 := n2_; have HB := n3_; clear n0_ n1_ n2_ n3_; (try clear hb); (try clear hb2); (try clear hk); (try clear hi)))
          have n0_ := aM (kD BK276.out)
          have n1_ := aM (kD BK278.out)
          have n2_ := aM (kD BK280.out)
          have n3_ := aM (pD HB.out)
          clear BK276
          clear BK278
          clear BK280
          clear HB
          have BK276 := n0_
          have BK278 := n1_
          have BK280 := n2_
          have HB := n3_
          clear n0_ n1_ n2_ n3_
          refine start_ (n := 6) (S := fun w' => w'.cell? ⟨gb278, 0, none⟩ = some (.int .i64 ((rd_impl_Peg l0 x13_1).f0)) ∧ w'.cell? ⟨gb278, 1, none⟩ = some (.int .i64 ((rd_impl_Peg l0 x13_1).f1)) ∧ w'.cell? ⟨gb280, 0, none⟩ = some (.int .i64 ((rd_impl_Peg l0 (ji8)).f0)) ∧ w'.cell? ⟨gb280, 1, none⟩ = some (.int .i64 ((rd_impl_Peg l0 (ji8)).f1))) (ds := []) #[false, false, false, false, false, false] kR rfl rfl ⟨(kC BK278.out 0).trans rfl, (kC BK278.out 1).trans rfl, (kC BK280.out 0).trans rfl, (kC BK280.out 1).trans rfl⟩ (fun hHeld => ?_)
          generalize w33.drew = w34 at BK276 BK278 BK280 HB hHeld ⊢
          refine take_ (i := 0) (N := some 30) (v := ?_) (a' := ?_) #[true, false, false, false, false, false] rfl rfl kR (fun _ _ _ h => h) (Or.inl ⟨by rfl, ?_⟩) hHeld ?_ ?_
          rotate_left
          ·rintro w' ⟨s0, s1, s2, s3⟩
           go_simp
           with_reducible rfl
          rotate_left
          ·simp only [Act.put, sI, sZ, sS, i64_w, i32_w]
           rfl
          refine take_ (i := 1) (N := some 31) (v := ?_) (a' := ?_) #[true, true, false, false, false, false] rfl rfl kR (fun _ _ _ h => h) (Or.inl ⟨by rfl, ?_⟩) hHeld ?_ ?_
          rotate_left
          ·rintro w' ⟨s0, s1, s2, s3⟩
           go_simp
           with_reducible rfl
          rotate_left
          ·simp only [Act.put, sI, sZ, sS, i64_w, i32_w]
           rfl
          refine join_ (σ := Nat × Nat) 2 #[true, true, true, true, false, false] (fun s_ => [(9, .pointer (some ⟨s_.1, 0, none⟩)), (10, .pointer (some ⟨s_.2, 0, none⟩))]) (fun s_ w' => (w'.cell? ⟨gb278, 0, none⟩ = some (.int .i64 ((rd_impl_Peg l0 x13_1).f0)) ∧ w'.cell? ⟨gb278, 1, none⟩ = some (.int .i64 ((rd_impl_Peg l0 x13_1).f1)) ∧ w'.cell? ⟨gb280, 0, none⟩ = some (.int .i64 ((rd_impl_Peg l0 (ji8)).f0)) ∧ w'.cell? ⟨gb280, 1, none⟩ = some (.int .i64 ((rd_impl_Peg l0 (ji8)).f1))) ∧ (w'.heap[gb276]? = some (.cells #[.int .i64 a1_0, .int .i64 a1_1] 34 (0, 0))) ∧ (w'.heap[gb278]? = some (.cells #[.int .i64 ((rd_impl_Peg l0 x13_1).f0), .int .i64 ((rd_impl_Peg l0 x13_1).f1)] 34 (0, 0))) ∧ (w'.heap[gb280]? = some (.cells #[.int .i64 ((rd_impl_Peg l0 (ji8)).f0), .int .i64 ((rd_impl_Peg l0 (ji8)).f1)] 34 (0, 0))) ∧ (w'.heap[s_.1]? = some (.cells #[.int .i64 0, .int .i64 0] 34 (0, 0))) ∧ (w'.heap[s_.2]? = some (.cells #[.int .i64 0, .int .i64 0] 34 (0, 0))) ∧ (w.heap.size ≤ s_.1) ∧ (w.heap.size ≤ s_.1) ∧ (gb276 ≠ s_.1) ∧ (s_.1 ≠ gb276) ∧ (gb278 ≠ s_.1) ∧ (s_.1 ≠ gb278) ∧ (gb280 ≠ s_.1) ∧ (s_.1 ≠ gb280) ∧ (s_.2 ≠ s_.1) ∧ (s_.1 ≠ s_.2) ∧ (w.heap.size ≤ s_.2) ∧ (w.heap.size ≤ s_.2) ∧ (gb276 ≠ s_.2) ∧ (s_.2 ≠ gb276) ∧ (gb278 ≠ s_.2) ∧ (s_.2 ≠ gb278) ∧ (gb280 ≠ s_.2) ∧ (s_.2 ≠ gb280) ∧ (Below w.heap.size w w')) ?_ ?_
          rotate_left
          ·intro hCont
           refine two_ (i := 2) (j := 3) (Ni := some 9) (Nj := some 10) #[true, true, true, false, false, false] #[true, true, false, true, false, false] rfl rfl rfl rfl kR (by decide) (by decide) (fun K hK => ?_) (fun K hK => ?_)
           ·skip
            refine box_step ?hg (N := 9) ?hd (cs := #[.int .i64 0, .int .i64 0]) (t := 34) ?hr ?_; (case hd => rfl); (case hg => rfl); (case hr => first | (go_simp; done) | (go_simp; rfl))
            intro gb282 hg w35 hbox hb
            have n0_ := aM (blk_below (g := gb276) (o := .cells #[.int .i64 a1_0, .int .i64 a1_1] 34 (0, 0)) (gQ BK276) hb)
            have n1_ := aM (blk_below (g := gb278) (o := .cells #[.int .i64 ((rd_impl_Peg l0 x13_1).f0), .int .i64 ((rd_impl_Peg l0 x13_1).f1)] 34 (0, 0)) (gQ BK278) hb)
            have n2_ := aM (blk_below (g := gb280) (o := .cells #[.int .i64 ((rd_impl_Peg l0 (ji8)).f0), .int .i64 ((rd_impl_Peg l0 (ji8)).f1)] 34 (0, 0)) (gQ BK280) hb)
            have n3_ := aM (pT (by repeat (first | (with_reducible first | exact HB.out | apply pA | apply pN | apply pD | refine pS ?_ GE276.out | refine pS ?_ GE278.out | refine pS ?_ GE280.out) | exact HB.out)) hb)
            have n4_ := aM (hbox)
            have n5_ := aM ((by rw [hg]; exact (pZ (by repeat (first | (with_reducible first | exact HB.out | apply pA | apply pN | apply pD | refine pS ?_ GE276.out | refine pS ?_ GE278.out | refine pS ?_ GE280.out) | exact HB.out))) : w.heap.size ≤ gb282))
            have n6_ := aM ((by rw [hg]; exact (pZ (by repeat (first | (with_reducible first | exact HB.out | apply pA | apply pN | apply pD | refine pS ?_ GE276.out | refine pS ?_ GE278.out | refine pS ?_ GE280.out) | exact HB.out))) : w.heap.size ≤ gb282))
            have n7_ := aM ((by rw [hg]; exact nN (blk_lt (g := gb276) (o := .cells #[.int .i64 a1_0, .int .i64 a1_1] 34 (0, 0)) (gQ BK276)) : gb276 ≠ gb282))
            have n8_ := aM ((by rw [hg]; exact Nat.ne_of_gt (blk_lt (g := gb276) (o := .cells #[.int .i64 a1_0, .int .i64 a1_1] 34 (0, 0)) (gQ BK276)) : gb282 ≠ gb276))
            have n9_ := aM ((by rw [hg]; exact nN (blk_lt (g := gb278) (o := .cells #[.int .i64 ((rd_impl_Peg l0 x13_1).f0), .int .i64 ((rd_impl_Peg l0 x13_1).f1)] 34 (0, 0)) (gQ BK278)) : gb278 ≠ gb282))
            have n10_ := aM ((by rw [hg]; exact Nat.ne_of_gt (blk_lt (g := gb278) (o := .cells #[.int .i64 ((rd_impl_Peg l0 x13_1).f0), .int .i64 ((rd_impl_Peg l0 x13_1).f1)] 34 (0, 0)) (gQ BK278)) : gb282 ≠ gb278))
            have n11_ := aM ((by rw [hg]; exact nN (blk_lt (g := gb280) (o := .cells #[.int .i64 ((rd_impl_Peg l0 (ji8)).f0), .int .i64 ((rd_impl_Peg l0 (ji8)).f1)] 34 (0, 0)) (gQ BK280)) : gb280 ≠ gb282))
            have n12_ := aM ((by rw [hg]; exact Nat.ne_of_gt (blk_lt (g := gb280) (o := .cells #[.int .i64 ((rd_impl_Peg l0 (ji8)).f0), .int .i64 ((rd_impl_Peg l0 (ji8)).f1)] 34 (0, 0)) (gQ BK280)) : gb282 ≠ gb280))
            clear BK276
            clear BK278
            clear BK280
            clear HB
            have BK276 := n0_
            have BK278 := n1_
            have BK280 := n2_
            have HB := n3_
            have BK282 := n4_
            have GW282 := n5_
            have GE282 := n6_
            have NB276_282 := n7_
            have NB282_276 := n8_
            have NB278_282 := n9_
            have NB282_278 := n10_
            have NB280_282 := n11_
            have NB282_280 := n12_
            clear n0_ n1_ n2_ n3_ n4_ n5_ n6_ n7_ n8_ n9_ n10_ n11_ n12_
            clear hb hbox hg
            refine hK.out _ _ ⟨(kC BK278.out 0).trans rfl, (kC BK278.out 1).trans rfl, (kC BK280.out 0).trans rfl, (kC BK280.out 1).trans rfl⟩ (fun hHeld => ?_)
            clear hK K
            refine norm_ (a' := ?_) ?_ ?_
            rotate_left
            ·show Act.put _ (some 9) _ = _
             simp only [Act.put, sI, sZ, sS, i64_w, i32_w]
             rfl
            refine one_ (i := 3) (N := some 10) #[true, true, true, true, false, false] rfl rfl kR (by decide) (fun K hK => ?_)
            refine box_step ?hg (N := 10) ?hd (cs := #[.int .i64 0, .int .i64 0]) (t := 34) ?hr ?_; (case hd => rfl); (case hg => rfl); (case hr => first | (go_simp; done) | (go_simp; rfl))
            intro gb283 hg w36 hbox hb
            have n0_ := aM (blk_below (g := gb276) (o := .cells #[.int .i64 a1_0, .int .i64 a1_1] 34 (0, 0)) (gQ BK276) hb)
            have n1_ := aM (blk_below (g := gb278) (o := .cells #[.int .i64 ((rd_impl_Peg l0 x13_1).f0), .int .i64 ((rd_impl_Peg l0 x13_1).f1)] 34 (0, 0)) (gQ BK278) hb)
            have n2_ := aM (blk_below (g := gb280) (o := .cells #[.int .i64 ((rd_impl_Peg l0 (ji8)).f0), .int .i64 ((rd_impl_Peg l0 (ji8)).f1)] 34 (0, 0)) (gQ BK280) hb)
            have n3_ := aM (blk_below (g := gb282) (o := .cells #[.int .i64 0, .int .i64 0] 34 (0, 0)) (gQ BK282) hb)
            have n4_ := aM (pT (by repeat (first | (with_reducible first | exact HB.out | apply pA | apply pN | apply pD | refine pS ?_ GE276.out | refine pS ?_ GE278.out | refine pS ?_ GE280.out | refine pS ?_ GE282.out) | exact HB.out)) hb)
            have n5_ := aM (hbox)
            have n6_ := aM ((by rw [hg]; exact (pZ (by repeat (first | (with_reducible first | exact HB.out | apply pA | apply pN | apply pD | refine pS ?_ GE276.out | refine pS ?_ GE278.out | refine pS ?_ GE280.out | refine pS ?_ GE282.out) | exact HB.out))) : w.heap.size ≤ gb283))
            have n7_ := aM ((by rw [hg]; exact (pZ (by repeat (first | (with_reducible first | exact HB.out | apply pA | apply pN | apply pD | refine pS ?_ GE276.out | refine pS ?_ GE278.out | refine pS ?_ GE280.out | refine pS ?_ GE282.out) | exact HB.out))) : w.heap.size ≤ gb283))
            have n8_ := aM ((by rw [hg]; exact nN (blk_lt (g := gb276) (o := .cells #[.int .i64 a1_0, .int .i64 a1_1] 34 (0, 0)) (gQ BK276)) : gb276 ≠ gb283))
            have n9_ := aM ((by rw [hg]; exact Nat.ne_of_gt (blk_lt (g := gb276) (o := .cells #[.int .i64 a1_0, .int .i64 a1_1] 34 (0, 0)) (gQ BK276)) : gb283 ≠ gb276))
            have n10_ := aM ((by rw [hg]; exact nN (blk_lt (g := gb278) (o := .cells #[.int .i64 ((rd_impl_Peg l0 x13_1).f0), .int .i64 ((rd_impl_Peg l0 x13_1).f1)] 34 (0, 0)) (gQ BK278)) : gb278 ≠ gb283))
            have n11_ := aM ((by rw [hg]; exact Nat.ne_of_gt (blk_lt (g := gb278) (o := .cells #[.int .i64 ((rd_impl_Peg l0 x13_1).f0), .int .i64 ((rd_impl_Peg l0 x13_1).f1)] 34 (0, 0)) (gQ BK278)) : gb283 ≠ gb278))
            have n12_ := aM ((by rw [hg]; exact nN (blk_lt (g := gb280) (o := .cells #[.int .i64 ((rd_impl_Peg l0 (ji8)).f0), .int .i64 ((rd_impl_Peg l0 (ji8)).f1)] 34 (0, 0)) (gQ BK280)) : gb280 ≠ gb283))
            have n13_ := aM ((by rw [hg]; exact Nat.ne_of_gt (blk_lt (g := gb280) (o := .cells #[.int .i64 ((rd_impl_Peg l0 (ji8)).f0), .int .i64 ((rd_impl_Peg l0 (ji8)).f1)] 34 (0, 0)) (gQ BK280)) : gb283 ≠ gb280))
            have n14_ := aM ((by rw [hg]; exact nN (blk_lt (g := gb282) (o := .cells #[.int .i64 0, .int .i64 0] 34 (0, 0)) (gQ BK282)) : gb282 ≠ gb283))
            have n15_ := aM ((by rw [hg]; exact Nat.ne_of_gt (blk_lt (g := gb282) (o := .cells #[.int .i64 0, .int .i64 0] 34 (0, 0)) (gQ BK282)) : gb283 ≠ gb282))
            clear BK276
            clear BK278
            clear BK280
            clear BK282
            clear HB
            have BK276 := n0_
            have BK278 := n1_
            have BK280 := n2_
            have BK282 := n3_
            have HB := n4_
            have BK283 := n5_
            have GW283 := n6_
            have GE283 := n7_
            have NB276_283 := n8_
            have NB283_276 := n9_
            have NB278_283 := n10_
            have NB283_278 := n11_
            have NB280_283 := n12_
            have NB283_280 := n13_
            have NB282_283 := n14_
            have NB283_282 := n15_
            clear n0_ n1_ n2_ n3_ n4_ n5_ n6_ n7_ n8_ n9_ n10_ n11_ n12_ n13_ n14_ n15_
            clear hb hbox hg
            refine hK.out _ _ ⟨(kC BK278.out 0).trans rfl, (kC BK278.out 1).trans rfl, (kC BK280.out 0).trans rfl, (kC BK280.out 1).trans rfl⟩ (fun hHeld => ?_)
            clear hK K
            refine norm_ (a' := ?_) ?_ ?_
            rotate_left
            ·show Act.put _ (some 10) _ = _
             simp only [Act.put, sI, sZ, sS, i64_w, i32_w]
             rfl
            exact norm_ (by simp only [putAll, Act.put, sI, sZ, sS]) (hCont (gb282, gb283) _ ⟨hHeld, (gQ BK276), (gQ BK278), (gQ BK280), (gQ BK282), (gQ BK283), GW282.out, GE282.out, NB276_282.out, NB282_276.out, NB278_282.out, NB282_278.out, NB280_282.out, NB282_280.out, NB283_282.out, NB282_283.out, GW283.out, GE283.out, NB276_283.out, NB283_276.out, NB278_283.out, NB283_278.out, NB280_283.out, NB283_280.out, (by repeat (first | (with_reducible first | exact HB.out | apply pA | apply pN | apply pD | refine pS ?_ GE276.out | refine pS ?_ GE278.out | refine pS ?_ GE280.out | refine pS ?_ GE282.out | refine pS ?_ GE283.out) | exact HB.out))⟩)
           ·skip
            refine box_step ?hg (N := 10) ?hd (cs := #[.int .i64 0, .int .i64 0]) (t := 34) ?hr ?_; (case hd => rfl); (case hg => rfl); (case hr => first | (go_simp; done) | (go_simp; rfl))
            intro gb283 hg w35 hbox hb
            have n0_ := aM (blk_below (g := gb276) (o := .cells #[.int .i64 a1_0, .int .i64 a1_1] 34 (0, 0)) (gQ BK276) hb)
            have n1_ := aM (blk_below (g := gb278) (o := .cells #[.int .i64 ((rd_impl_Peg l0 x13_1).f0), .int .i64 ((rd_impl_Peg l0 x13_1).f1)] 34 (0, 0)) (gQ BK278) hb)
            have n2_ := aM (blk_below (g := gb280) (o := .cells #[.int .i64 ((rd_impl_Peg l0 (ji8)).f0), .int .i64 ((rd_impl_Peg l0 (ji8)).f1)] 34 (0, 0)) (gQ BK280) hb)
            have n3_ := aM (pT (by repeat (first | (with_reducible first | exact HB.out | apply pA | apply pN | apply pD | refine pS ?_ GE276.out | refine pS ?_ GE278.out | refine pS ?_ GE280.out) | exact HB.out)) hb)
            have n4_ := aM (hbox)
            have n5_ := aM ((by rw [hg]; exact (pZ (by repeat (first | (with_reducible first | exact HB.out | apply pA | apply pN | apply pD | refine pS ?_ GE276.out | refine pS ?_ GE278.out | refine pS ?_ GE280.out) | exact HB.out))) : w.heap.size ≤ gb283))
            have n6_ := aM ((by rw [hg]; exact (pZ (by repeat (first | (with_reducible first | exact HB.out | apply pA | apply pN | apply pD | refine pS ?_ GE276.out | refine pS ?_ GE278.out | refine pS ?_ GE280.out) | exact HB.out))) : w.heap.size ≤ gb283))
            have n7_ := aM ((by rw [hg]; exact nN (blk_lt (g := gb276) (o := .cells #[.int .i64 a1_0, .int .i64 a1_1] 34 (0, 0)) (gQ BK276)) : gb276 ≠ gb283))
            have n8_ := aM ((by rw [hg]; exact Nat.ne_of_gt (blk_lt (g := gb276) (o := .cells #[.int .i64 a1_0, .int .i64 a1_1] 34 (0, 0)) (gQ BK276)) : gb283 ≠ gb276))
            have n9_ := aM ((by rw [hg]; exact nN (blk_lt (g := gb278) (o := .cells #[.int .i64 ((rd_impl_Peg l0 x13_1).f0), .int .i64 ((rd_impl_Peg l0 x13_1).f1)] 34 (0, 0)) (gQ BK278)) : gb278 ≠ gb283))
            have n10_ := aM ((by rw [hg]; exact Nat.ne_of_gt (blk_lt (g := gb278) (o := .cells #[.int .i64 ((rd_impl_Peg l0 x13_1).f0), .int .i64 ((rd_impl_Peg l0 x13_1).f1)] 34 (0, 0)) (gQ BK278)) : gb283 ≠ gb278))
            have n11_ := aM ((by rw [hg]; exact nN (blk_lt (g := gb280) (o := .cells #[.int .i64 ((rd_impl_Peg l0 (ji8)).f0), .int .i64 ((rd_impl_Peg l0 (ji8)).f1)] 34 (0, 0)) (gQ BK280)) : gb280 ≠ gb283))
            have n12_ := aM ((by rw [hg]; exact Nat.ne_of_gt (blk_lt (g := gb280) (o := .cells #[.int .i64 ((rd_impl_Peg l0 (ji8)).f0), .int .i64 ((rd_impl_Peg l0 (ji8)).f1)] 34 (0, 0)) (gQ BK280)) : gb283 ≠ gb280))
            clear BK276
            clear BK278
            clear BK280
            clear HB
            have BK276 := n0_
            have BK278 := n1_
            have BK280 := n2_
            have HB := n3_
            have BK283 := n4_
            have GW283 := n5_
            have GE283 := n6_
            have NB276_283 := n7_
            have NB283_276 := n8_
            have NB278_283 := n9_
            have NB283_278 := n10_
            have NB280_283 := n11_
            have NB283_280 := n12_
            clear n0_ n1_ n2_ n3_ n4_ n5_ n6_ n7_ n8_ n9_ n10_ n11_ n12_
            clear hb hbox hg
            refine hK.out _ _ ⟨(kC BK278.out 0).trans rfl, (kC BK278.out 1).trans rfl, (kC BK280.out 0).trans rfl, (kC BK280.out 1).trans rfl⟩ (fun hHeld => ?_)
            clear hK K
            refine norm_ (a' := ?_) ?_ ?_
            rotate_left
            ·show Act.put _ (some 10) _ = _
             simp only [Act.put, sI, sZ, sS, i64_w, i32_w]
             rfl
            refine one_ (i := 2) (N := some 9) #[true, true, true, true, false, false] rfl rfl kR (by decide) (fun K hK => ?_)
            refine box_step ?hg (N := 9) ?hd (cs := #[.int .i64 0, .int .i64 0]) (t := 34) ?hr ?_; (case hd => rfl); (case hg => rfl); (case hr => first | (go_simp; done) | (go_simp; rfl))
            intro gb282 hg w36 hbox hb
            have n0_ := aM (blk_below (g := gb276) (o := .cells #[.int .i64 a1_0, .int .i64 a1_1] 34 (0, 0)) (gQ BK276) hb)
            have n1_ := aM (blk_below (g := gb278) (o := .cells #[.int .i64 ((rd_impl_Peg l0 x13_1).f0), .int .i64 ((rd_impl_Peg l0 x13_1).f1)] 34 (0, 0)) (gQ BK278) hb)
            have n2_ := aM (blk_below (g := gb280) (o := .cells #[.int .i64 ((rd_impl_Peg l0 (ji8)).f0), .int .i64 ((rd_impl_Peg l0 (ji8)).f1)] 34 (0, 0)) (gQ BK280) hb)
            have n3_ := aM (blk_below (g := gb283) (o := .cells #[.int .i64 0, .int .i64 0] 34 (0, 0)) (gQ BK283) hb)
            have n4_ := aM (pT (by repeat (first | (with_reducible first | exact HB.out | apply pA | apply pN | apply pD | refine pS ?_ GE276.out | refine pS ?_ GE278.out | refine pS ?_ GE280.out | refine pS ?_ GE283.out) | exact HB.out)) hb)
            have n5_ := aM (hbox)
            have n6_ := aM ((by rw [hg]; exact (pZ (by repeat (first | (with_reducible first | exact HB.out | apply pA | apply pN | apply pD | refine pS ?_ GE276.out | refine pS ?_ GE278.out | refine pS ?_ GE280.out | refine pS ?_ GE283.out) | exact HB.out))) : w.heap.size ≤ gb282))
            have n7_ := aM ((by rw [hg]; exact (pZ (by repeat (first | (with_reducible first | exact HB.out | apply pA | apply pN | apply pD | refine pS ?_ GE276.out | refine pS ?_ GE278.out | refine pS ?_ GE280.out | refine pS ?_ GE283.out) | exact HB.out))) : w.heap.size ≤ gb282))
            have n8_ := aM ((by rw [hg]; exact nN (blk_lt (g := gb276) (o := .cells #[.int .i64 a1_0, .int .i64 a1_1] 34 (0, 0)) (gQ BK276)) : gb276 ≠ gb282))
            have n9_ := aM ((by rw [hg]; exact Nat.ne_of_gt (blk_lt (g := gb276) (o := .cells #[.int .i64 a1_0, .int .i64 a1_1] 34 (0, 0)) (gQ BK276)) : gb282 ≠ gb276))
            have n10_ := aM ((by rw [hg]; exact nN (blk_lt (g := gb278) (o := .cells #[.int .i64 ((rd_impl_Peg l0 x13_1).f0), .int .i64 ((rd_impl_Peg l0 x13_1).f1)] 34 (0, 0)) (gQ BK278)) : gb278 ≠ gb282))
            have n11_ := aM ((by rw [hg]; exact Nat.ne_of_gt (blk_lt (g := gb278) (o := .cells #[.int .i64 ((rd_impl_Peg l0 x13_1).f0), .int .i64 ((rd_impl_Peg l0 x13_1).f1)] 34 (0, 0)) (gQ BK278)) : gb282 ≠ gb278))
            have n12_ := aM ((by rw [hg]; exact nN (blk_lt (g := gb280) (o := .cells #[.int .i64 ((rd_impl_Peg l0 (ji8)).f0), .int .i64 ((rd_impl_Peg l0 (ji8)).f1)] 34 (0, 0)) (gQ BK280)) : gb280 ≠ gb282))
            have n13_ := aM ((by rw [hg]; exact Nat.ne_of_gt (blk_lt (g := gb280) (o := .cells #[.int .i64 ((rd_impl_Peg l0 (ji8)).f0), .int .i64 ((rd_impl_Peg l0 (ji8)).f1)] 34 (0, 0)) (gQ BK280)) : gb282 ≠ gb280))
            have n14_ := aM ((by rw [hg]; exact nN (blk_lt (g := gb283) (o := .cells #[.int .i64 0, .int .i64 0] 34 (0, 0)) (gQ BK283)) : gb283 ≠ gb282))
            have n15_ := aM ((by rw [hg]; exact Nat.ne_of_gt (blk_lt (g := gb283) (o := .cells #[.int .i64 0, .int .i64 0] 34 (0, 0)) (gQ BK283)) : gb282 ≠ gb283))
            clear BK276
            clear BK278
            clear BK280
            clear BK283
            clear HB
            have BK276 := n0_
            have BK278 := n1_
            have BK280 := n2_
            have BK283 := n3_
            have HB := n4_
            have BK282 := n5_
            have GW282 := n6_
            have GE282 := n7_
            have NB276_282 := n8_
            have NB282_276 := n9_
            have NB278_282 := n10_
            have NB282_278 := n11_
            have NB280_282 := n12_
            have NB282_280 := n13_
            have NB283_282 := n14_
            have NB282_283 := n15_
            clear n0_ n1_ n2_ n3_ n4_ n5_ n6_ n7_ n8_ n9_ n10_ n11_ n12_ n13_ n14_ n15_
            clear hb hbox hg
            refine hK.out _ _ ⟨(kC BK278.out 0).trans rfl, (kC BK278.out 1).trans rfl, (kC BK280.out 0).trans rfl, (kC BK280.out 1).trans rfl⟩ (fun hHeld => ?_)
            clear hK K
            refine norm_ (a' := ?_) ?_ ?_
            rotate_left
            ·show Act.put _ (some 9) _ = _
             simp only [Act.put, sI, sZ, sS, i64_w, i32_w]
             rfl
            exact norm_ (by simp only [putAll, Act.put, sI, sZ, sS]) (hCont (gb282, gb283) _ ⟨hHeld, (gQ BK276), (gQ BK278), (gQ BK280), (gQ BK282), (gQ BK283), GW282.out, GE282.out, NB276_282.out, NB282_276.out, NB278_282.out, NB282_278.out, NB280_282.out, NB282_280.out, NB283_282.out, NB282_283.out, GW283.out, GE283.out, NB276_283.out, NB283_276.out, NB278_283.out, NB283_278.out, NB280_283.out, NB283_280.out, (by repeat (first | (with_reducible first | exact HB.out | apply pA | apply pN | apply pD | refine pS ?_ GE276.out | refine pS ?_ GE278.out | refine pS ?_ GE280.out | refine pS ?_ GE283.out | refine pS ?_ GE282.out) | exact HB.out))⟩)
          rintro ⟨gb282, gb283⟩ w37 ⟨hS_, h0_, h1_, h2_, h3_, h4_, h5_, h6_, h7_, h8_, h9_, h10_, h11_, h12_, h13_, h14_, h15_, h16_, h17_, h18_, h19_, h20_, h21_, h22_, h23_⟩
          have n0_ : Aside0 (w37.heap[gb276]? = some (.cells #[.int .i64 a1_0, .int .i64 a1_1] 34 (0, 0))) := ⟨h0_⟩
          have n1_ : Aside0 (w37.heap[gb278]? = some (.cells #[.int .i64 ((rd_impl_Peg l0 x13_1).f0), .int .i64 ((rd_impl_Peg l0 x13_1).f1)] 34 (0, 0))) := ⟨h1_⟩
          have n2_ : Aside0 (w37.heap[gb280]? = some (.cells #[.int .i64 ((rd_impl_Peg l0 (ji8)).f0), .int .i64 ((rd_impl_Peg l0 (ji8)).f1)] 34 (0, 0))) := ⟨h2_⟩
          have n3_ : Aside0 (w37.heap[gb282]? = some (.cells #[.int .i64 0, .int .i64 0] 34 (0, 0))) := ⟨h3_⟩
          have n4_ : Aside0 (w37.heap[gb283]? = some (.cells #[.int .i64 0, .int .i64 0] 34 (0, 0))) := ⟨h4_⟩
          have n5_ : Aside0 (w.heap.size ≤ gb282) := ⟨h5_⟩
          have n6_ : Aside0 (w.heap.size ≤ gb282) := ⟨h6_⟩
          have n7_ : Aside0 (gb276 ≠ gb282) := ⟨h7_⟩
          have n8_ : Aside0 (gb282 ≠ gb276) := ⟨h8_⟩
          have n9_ : Aside0 (gb278 ≠ gb282) := ⟨h9_⟩
          have n10_ : Aside0 (gb282 ≠ gb278) := ⟨h10_⟩
          have n11_ : Aside0 (gb280 ≠ gb282) := ⟨h11_⟩
          have n12_ : Aside0 (gb282 ≠ gb280) := ⟨h12_⟩
          have n13_ : Aside0 (gb283 ≠ gb282) := ⟨h13_⟩
          have n14_ : Aside0 (gb282 ≠ gb283) := ⟨h14_⟩
          have n15_ : Aside0 (w.heap.size ≤ gb283) := ⟨h15_⟩
          have n16_ : Aside0 (w.heap.size ≤ gb283) := ⟨h16_⟩
          have n17_ : Aside0 (gb276 ≠ gb283) := ⟨h17_⟩
          have n18_ : Aside0 (gb283 ≠ gb276) := ⟨h18_⟩
          have n19_ : Aside0 (gb278 ≠ gb283) := ⟨h19_⟩
          have n20_ : Aside0 (gb283 ≠ gb278) := ⟨h20_⟩
          have n21_ : Aside0 (gb280 ≠ gb283) := ⟨h21_⟩
          have n22_ : Aside0 (gb283 ≠ gb280) := ⟨h22_⟩
          have n23_ : Aside0 (Below w.heap.size w w37) := ⟨h23_⟩
          clear BK276
          clear BK278
          clear BK280
          clear HB
          clear h0_ h1_ h2_ h3_ h4_ h5_ h6_ h7_ h8_ h9_ h10_ h11_ h12_ h13_ h14_ h15_ h16_ h17_ h18_ h19_ h20_ h21_ h22_ h23_
          have BK276 := n0_
          have BK278 := n1_
          have BK280 := n2_
          have BK282 := n3_
          have BK283 := n4_
          have GW282 := n5_
          have GE282 := n6_
          have NB276_282 := n7_
          have NB282_276 := n8_
          have NB278_282 := n9_
          have NB282_278 := n10_
          have NB280_282 := n11_
          have NB282_280 := n12_
          have NB283_282 := n13_
          have NB282_283 := n14_
          have GW283 := n15_
          have GE283 := n16_
          have NB276_283 := n17_
          have NB283_276 := n18_
          have NB278_283 := n19_
          have NB283_278 := n20_
          have NB280_283 := n21_
          have NB283_280 := n22_
          have HB := n23_
          clear n0_ n1_ n2_ n3_ n4_ n5_ n6_ n7_ n8_ n9_ n10_ n11_ n12_ n13_ n14_ n15_ n16_ n17_ n18_ n19_ n20_ n21_ n22_ n23_
          have hHeld : w37.cell? ⟨gb278, 0, none⟩ = some (.int .i64 ((rd_impl_Peg l0 x13_1).f0)) ∧ w37.cell? ⟨gb278, 1, none⟩ = some (.int .i64 ((rd_impl_Peg l0 x13_1).f1)) ∧ w37.cell? ⟨gb280, 0, none⟩ = some (.int .i64 ((rd_impl_Peg l0 (ji8)).f0)) ∧ w37.cell? ⟨gb280, 1, none⟩ = some (.int .i64 ((rd_impl_Peg l0 (ji8)).f1)) := hS_
          refine norm_ (a' := ?_) ?_ ?_
          rotate_left
          ·simp only [putAll, Act.put, sI, sZ, sS]
           rfl
          refine one_ (i := 4) (N := none) #[true, true, true, true, true, false] rfl rfl kR (by decide) (fun K hK => ?_)
          have hs38 : w37.cell? ⟨gb282, 0, none⟩ = some (.int .i64 0) := (kC BK282.out 0).trans rfl
          have hfs38 := kF BK282.out 0
          have hns38_0 := NB276_282.out
          have hns38_1 := NB278_282.out
          have hns38_2 := NB280_282.out
          have hns38_4 := NB283_282.out
          have hms38_0 := NB282_276.out
          have hms38_1 := NB282_278.out
          have hms38_2 := NB282_280.out
          have hms38_4 := NB282_283.out
          have hs39 : w37.cell? ⟨gb282, 1, none⟩ = some (.int .i64 0) := (kC BK282.out 1).trans rfl
          have hfs39 := kF BK282.out 1
          have hns39_0 := NB276_282.out
          have hns39_1 := NB278_282.out
          have hns39_2 := NB280_282.out
          have hns39_4 := NB283_282.out
          have hms39_0 := NB282_276.out
          have hms39_1 := NB282_278.out
          have hms39_2 := NB282_280.out
          have hms39_4 := NB282_283.out
          refine skip_ (w1 := ?_) (by rfl) rfl ?_ ?_
          rotate_left
          ·go_simp
           rfl
          refine hK.out _ _ ⟨((cell_far (p := ⟨gb282, _, none⟩) NB278_282.out _).trans (((cell_far (p := ⟨gb282, _, none⟩) NB278_282.out _).trans (hHeld.1)))), ((cell_far (p := ⟨gb282, _, none⟩) NB278_282.out _).trans (((cell_far (p := ⟨gb282, _, none⟩) NB278_282.out _).trans (hHeld.2.1)))), ((cell_far (p := ⟨gb282, _, none⟩) NB280_282.out _).trans (((cell_far (p := ⟨gb282, _, none⟩) NB280_282.out _).trans (hHeld.2.2.1)))), ((cell_far (p := ⟨gb282, _, none⟩) NB280_282.out _).trans (((cell_far (p := ⟨gb282, _, none⟩) NB280_282.out _).trans (hHeld.2.2.2))))⟩ (fun hHeld => ?_)
          clear hK K
          refine one_ (i := 5) (N := none) #[true, true, true, true, true, true] rfl rfl kR (by decide) (fun K hK => ?_)
          have hs40 : w37.cell? ⟨gb283, 0, none⟩ = some (.int .i64 0) := (kC BK283.out 0).trans rfl
          have hfs40 := kF BK283.out 0
          have hns40_0 := NB276_283.out
          have hns40_1 := NB278_283.out
          have hns40_2 := NB280_283.out
          have hns40_3 := NB282_283.out
          have hms40_0 := NB283_276.out
          have hms40_1 := NB283_278.out
          have hms40_2 := NB283_280.out
          have hms40_3 := NB283_282.out
          have hs41 : w37.cell? ⟨gb283, 1, none⟩ = some (.int .i64 0) := (kC BK283.out 1).trans rfl
          have hfs41 := kF BK283.out 1
          have hns41_0 := NB276_283.out
          have hns41_1 := NB278_283.out
          have hns41_2 := NB280_283.out
          have hns41_3 := NB282_283.out
          have hms41_0 := NB283_276.out
          have hms41_1 := NB283_278.out
          have hms41_2 := NB283_280.out
          have hms41_3 := NB283_282.out
          refine skip_ (w1 := ?_) (by rfl) rfl ?_ ?_
          rotate_left
          ·go_simp
           rfl
          refine hK.out _ _ ⟨((cell_far (p := ⟨gb283, _, none⟩) NB278_283.out _).trans (((cell_far (p := ⟨gb283, _, none⟩) NB278_283.out _).trans (hHeld.1)))), ((cell_far (p := ⟨gb283, _, none⟩) NB278_283.out _).trans (((cell_far (p := ⟨gb283, _, none⟩) NB278_283.out _).trans (hHeld.2.1)))), ((cell_far (p := ⟨gb283, _, none⟩) NB280_283.out _).trans (((cell_far (p := ⟨gb283, _, none⟩) NB280_283.out _).trans (hHeld.2.2.1)))), ((cell_far (p := ⟨gb283, _, none⟩) NB280_283.out _).trans (((cell_far (p := ⟨gb283, _, none⟩) NB280_283.out _).trans (hHeld.2.2.2))))⟩ (fun hHeld => ?_)
          clear hK K
          refine done_ kR ?_
          have hnb42 := NB282_276.out
          have hnc42 := NB276_282.out
          have hnb43 := NB282_278.out
          have hnc43 := NB278_282.out
          have hnb44 := NB282_280.out
          have hnc44 := NB280_282.out
          have hnb45 := NB282_283.out
          have hnc45 := NB283_282.out
          have hcz46_0 : w37.cell? ⟨gb282, 0, none⟩ = some (.int .i64 0) := (kC BK282.out 0).trans rfl
          have hcz46_1 : w37.cell? ⟨gb282, 1, none⟩ = some (.int .i64 0) := (kC BK282.out 1).trans rfl
          have hfz46_0 := kF BK282.out 0
          have hfz46_1 := kF BK282.out 1
          have hnb47 := NB283_276.out
          have hnc47 := NB276_283.out
          have hnb48 := NB283_278.out
          have hnc48 := NB278_283.out
          have hnb49 := NB283_280.out
          have hnc49 := NB280_283.out
          have hcz50_0 : w37.cell? ⟨gb283, 0, none⟩ = some (.int .i64 0) := (kC BK283.out 0).trans rfl
          have hcz50_1 : w37.cell? ⟨gb283, 1, none⟩ = some (.int .i64 0) := (kC BK283.out 1).trans rfl
          have hfz50_0 := kF BK283.out 0
          have hfz50_1 := kF BK283.out 1
          go_upto_if 36 with (fail)
          go_cut [] (fun wc => ∃ (kq : Nat) (x283000_22 : Int) (x283001_22 : Int) (x284000_22 : Int) (x284001_22 : Int), Aside0 (spec_pgWhere.j1 kq l0 x5_1 l0 (l0.length : Int) x13_1 a1_0 a1_1 x283000_22 x283001_22 x284000_22 x284001_22 = some r) ∧ Aside0 (kq ≤ k1) ∧ Aside0 (wc.heap[gb276]? = some (.cells #[.int .i64 a1_0, .int .i64 a1_1] 34 (0, 0))) ∧ Aside0 (wc.heap[gb278]? = some (.cells #[.int .i64 ((rd_impl_Peg l0 x13_1).f0), .int .i64 ((rd_impl_Peg l0 x13_1).f1)] 34 (0, 0))) ∧ Aside0 (wc.heap[gb280]? = some (.cells #[.int .i64 ((rd_impl_Peg l0 (ji8)).f0), .int .i64 ((rd_impl_Peg l0 (ji8)).f1)] 34 (0, 0))) ∧ Aside0 (wc.heap[gb282]? = some (.cells #[.int .i64 x283000_22, .int .i64 x283001_22] 34 (0, 0))) ∧ Aside0 (wc.heap[gb283]? = some (.cells #[.int .i64 x284000_22, .int .i64 x284001_22] 34 (0, 0))) ∧ Aside0 (Below w.heap.size w wc))
          case first =>
           have H := HC23.out
           clear HC23
           by_cases c51 : ((rd_impl_Peg l0 x13_1).f1) > ((rd_impl_Peg l0 (ji8)).f1)
           ·rw [if_pos c51] at H
            have c51b0 : decide (((rd_impl_Peg l0 (ji8)).f1) < ((rd_impl_Peg l0 x13_1).f1)) = true := dE c51
            clear c51
            (first | rw [c51b0] | (simp only [i64_w, i32_w]; rw [c51b0]) | skip)
            have H' := aM H
            clear H
            have hnb52 := NB280_276.out
            have hnc52 := NB276_280.out
            have hnb53 := NB280_278.out
            have hnc53 := NB278_280.out
            have hnb54 := NB280_282.out
            have hnc54 := NB282_280.out
            have hnb55 := NB280_283.out
            have hnc55 := NB283_280.out
            have hcz56_0 : w37.cell? ⟨gb280, 0, none⟩ = some (.int .i64 ((rd_impl_Peg l0 (ji8)).f0)) := (kC BK280.out 0).trans rfl
            have hcz56_1 : w37.cell? ⟨gb280, 1, none⟩ = some (.int .i64 ((rd_impl_Peg l0 (ji8)).f1)) := (kC BK280.out 1).trans rfl
            have hfz56_0 := kF BK280.out 0
            have hfz56_1 := kF BK280.out 1
            have hnb57 := NB282_276.out
            have hnc57 := NB276_282.out
            have hnb58 := NB282_278.out
            have hnc58 := NB278_282.out
            have hnb59 := NB282_283.out
            have hnc59 := NB283_282.out
            have hcz60_0 : w37.cell? ⟨gb282, 0, none⟩ = some (.int .i64 0) := (kC BK282.out 0).trans rfl
            have hcz60_1 : w37.cell? ⟨gb282, 1, none⟩ = some (.int .i64 0) := (kC BK282.out 1).trans rfl
            have hfz60_0 := kF BK282.out 0
            have hfz60_1 := kF BK282.out 1
            have hnb61 := NB278_276.out
            have hnc61 := NB276_278.out
            have hnb62 := NB278_283.out
            have hnc62 := NB283_278.out
            have hcz63_0 : w37.cell? ⟨gb278, 0, none⟩ = some (.int .i64 ((rd_impl_Peg l0 x13_1).f0)) := (kC BK278.out 0).trans rfl
            have hcz63_1 : w37.cell? ⟨gb278, 1, none⟩ = some (.int .i64 ((rd_impl_Peg l0 x13_1).f1)) := (kC BK278.out 1).trans rfl
            have hfz63_0 := kF BK278.out 0
            have hfz63_1 := kF BK278.out 1
            have hnb64 := NB283_276.out
            have hnc64 := NB276_283.out
            have hcz65_0 : w37.cell? ⟨gb283, 0, none⟩ = some (.int .i64 0) := (kC BK283.out 0).trans rfl
            have hcz65_1 : w37.cell? ⟨gb283, 1, none⟩ = some (.int .i64 0) := (kC BK283.out 1).trans rfl
            have hfz65_0 := kF BK283.out 0
            have hfz65_1 := kF BK283.out 1
            go_wp2
            go_meet
            case rel => exact ⟨_, ((rd_impl_Peg l0 (ji8)).f0), ((rd_impl_Peg l0 (ji8)).f1), ((rd_impl_Peg l0 x13_1).f0), ((rd_impl_Peg l0 x13_1).f1), H', ⟨by have := HK1.out; first | omega | exact Nat.le_refl _⟩, ⟨by (with_reducible repeat (first | refine kN ?_ _ | refine kD ?_ | refine kA ?_ _)); refine blk_far ?_ NB276_283.out _; (with_reducible repeat (first | refine kN ?_ _ | refine kD ?_ | refine kA ?_ _)); refine blk_far ?_ NB276_283.out _; (with_reducible repeat (first | refine kN ?_ _ | refine kD ?_ | refine kA ?_ _)); refine blk_far ?_ NB276_282.out _; (with_reducible repeat (first | refine kN ?_ _ | refine kD ?_ | refine kA ?_ _)); refine blk_far ?_ NB276_282.out _; (with_reducible repeat (first | refine kN ?_ _ | refine kD ?_ | refine kA ?_ _)); refine blk_far ?_ NB276_283.out _; (with_reducible repeat (first | refine kN ?_ _ | refine kD ?_ | refine kA ?_ _)); refine blk_far ?_ NB276_283.out _; (with_reducible repeat (first | refine kN ?_ _ | refine kD ?_ | refine kA ?_ _)); refine blk_far ?_ NB276_282.out _; (with_reducible repeat (first | refine kN ?_ _ | refine kD ?_ | refine kA ?_ _)); refine blk_far ?_ NB276_282.out _; (with_reducible repeat (first | refine kN ?_ _ | refine kD ?_ | refine kA ?_ _)); exact BK276.out⟩, ⟨by (with_reducible repeat (first | refine kN ?_ _ | refine kD ?_ | refine kA ?_ _)); refine blk_far ?_ NB278_283.out _; (with_reducible repeat (first | refine kN ?_ _ | refine kD ?_ | refine kA ?_ _)); refine blk_far ?_ NB278_283.out _; (with_reducible repeat (first | refine kN ?_ _ | refine kD ?_ | refine kA ?_ _)); refine blk_far ?_ NB278_282.out _; (with_reducible repeat (first | refine kN ?_ _ | refine kD ?_ | refine kA ?_ _)); refine blk_far ?_ NB278_282.out _; (with_reducible repeat (first | refine kN ?_ _ | refine kD ?_ | refine kA ?_ _)); refine blk_far ?_ NB278_283.out _; (with_reducible repeat (first | refine kN ?_ _ | refine kD ?_ | refine kA ?_ _)); refine blk_far ?_ NB278_283.out _; (with_reducible repeat (first | refine kN ?_ _ | refine kD ?_ | refine kA ?_ _)); refine blk_far ?_ NB278_282.out _; (with_reducible repeat (first | refine kN ?_ _ | refine kD ?_ | refine kA ?_ _)); refine blk_far ?_ NB278_282.out _; (with_reducible repeat (first | refine kN ?_ _ | refine kD ?_ | refine kA ?_ _)); exact BK278.out⟩, ⟨by (with_reducible repeat (first | refine kN ?_ _ | refine kD ?_ | refine kA ?_ _)); refine blk_far ?_ NB280_283.out _; (with_reducible repeat (first | refine kN ?_ _ | refine kD ?_ | refine kA ?_ _)); refine blk_far ?_ NB280_283.out _; (with_reducible repeat (first | refine kN ?_ _ | refine kD ?_ | refine kA ?_ _)); refine blk_far ?_ NB280_282.out _; (with_reducible repeat (first | refine kN ?_ _ | refine kD ?_ | refine kA ?_ _)); refine blk_far ?_ NB280_282.out _; (with_reducible repeat (first | refine kN ?_ _ | refine kD ?_ | refine kA ?_ _)); refine blk_far ?_ NB280_283.out _; (with_reducible repeat (first | refine kN ?_ _ | refine kD ?_ | refine kA ?_ _)); refine blk_far ?_ NB280_283.out _; (with_reducible repeat (first | refine kN ?_ _ | refine kD ?_ | refine kA ?_ _)); refine blk_far ?_ NB280_282.out _; (with_reducible repeat (first | refine kN ?_ _ | refine kD ?_ | refine kA ?_ _)); refine blk_far ?_ NB280_282.out _; (with_reducible repeat (first | refine kN ?_ _ | refine kD ?_ | refine kA ?_ _)); exact BK280.out⟩, ⟨by (with_reducible repeat (first | refine kN ?_ _ | refine kD ?_ | refine kA ?_ _)); refine blk_far ?_ NB282_283.out _; (with_reducible repeat (first | refine kN ?_ _ | refine kD ?_ | refine kA ?_ _)); refine blk_far ?_ NB282_283.out _; (with_reducible repeat (first | refine kN ?_ _ | refine kD ?_ | refine kA ?_ _)); refine blk_put (cs := #[.int .i64 ((rd_impl_Peg l0 (ji8)).f0), .int .i64 ((rd_impl_Peg l0 x13_1).f1)]) ?_ 1 _ rfl; (with_reducible repeat (first | refine kN ?_ _ | refine kD ?_ | refine kA ?_ _)); refine blk_put (cs := #[.int .i64 ((rd_impl_Peg l0 x13_1).f0), .int .i64 ((rd_impl_Peg l0 x13_1).f1)]) ?_ 0 _ rfl; (with_reducible repeat (first | refine kN ?_ _ | refine kD ?_ | refine kA ?_ _)); refine blk_far ?_ NB282_283.out _; (with_reducible repeat (first | refine kN ?_ _ | refine kD ?_ | refine kA ?_ _)); refine blk_far ?_ NB282_283.out _; (with_reducible repeat (first | refine kN ?_ _ | refine kD ?_ | refine kA ?_ _)); refine blk_put (cs := #[.int .i64 ((rd_impl_Peg l0 x13_1).f0), .int .i64 0]) ?_ 1 _ rfl; (with_reducible repeat (first | refine kN ?_ _ | refine kD ?_ | refine kA ?_ _)); refine blk_put (cs := #[.int .i64 0, .int .i64 0]) ?_ 0 _ rfl; (with_reducible repeat (first | refine kN ?_ _ | refine kD ?_ | refine kA ?_ _)); exact BK282.out⟩, ⟨by (with_reducible repeat (first | refine kN ?_ _ | refine kD ?_ | refine kA ?_ _)); refine blk_put (cs := #[.int .i64 ((rd_impl_Peg l0 x13_1).f0), .int .i64 ((rd_impl_Peg l0 (ji8)).f1)]) ?_ 1 _ rfl; (with_reducible repeat (first | refine kN ?_ _ | refine kD ?_ | refine kA ?_ _)); refine blk_put (cs := #[.int .i64 ((rd_impl_Peg l0 (ji8)).f0), .int .i64 ((rd_impl_Peg l0 (ji8)).f1)]) ?_ 0 _ rfl; (with_reducible repeat (first | refine kN ?_ _ | refine kD ?_ | refine kA ?_ _)); refine blk_far ?_ NB283_282.out _; (with_reducible repeat (first | refine kN ?_ _ | refine kD ?_ | refine kA ?_ _)); refine blk_far ?_ NB283_282.out _; (with_reducible repeat (first | refine kN ?_ _ | refine kD ?_ | refine kA ?_ _)); refine blk_put (cs := #[.int .i64 ((rd_impl_Peg l0 (ji8)).f0), .int .i64 0]) ?_ 1 _ rfl; (with_reducible repeat (first | refine kN ?_ _ | refine kD ?_ | refine kA ?_ _)); refine blk_put (cs := #[.int .i64 0, .int .i64 0]) ?_ 0 _ rfl; (with_reducible repeat (first | refine kN ?_ _ | refine kD ?_ | refine kA ?_ _)); refine blk_far ?_ NB283_282.out _; (with_reducible repeat (first | refine kN ?_ _ | refine kD ?_ | refine kA ?_ _)); refine blk_far ?_ NB283_282.out _; (with_reducible repeat (first | refine kN ?_ _ | refine kD ?_ | refine kA ?_ _)); exact BK283.out⟩, ⟨by repeat (first | (with_reducible first | exact HB.out | apply pA | apply pN | apply pD | refine pS ?_ GE276.out | refine pS ?_ GE278.out | refine pS ?_ GE280.out | refine pS ?_ GE282.out | refine pS ?_ GE283.out) | exact HB.out)⟩⟩
           ·rw [if_neg c51] at H
            have c51b0 : decide (((rd_impl_Peg l0 (ji8)).f1) < ((rd_impl_Peg l0 x13_1).f1)) = false := decide_eq_false c51
            clear c51
            (first | rw [c51b0] | (simp only [i64_w, i32_w]; rw [c51b0]) | skip)
            have H' := aM H
            clear H
            go_wp2
            go_meet
            case rel => exact ⟨_, ((rd_impl_Peg l0 x13_1).f0), ((rd_impl_Peg l0 x13_1).f1), ((rd_impl_Peg l0 (ji8)).f0), ((rd_impl_Peg l0 (ji8)).f1), H', ⟨by have := HK1.out; first | omega | exact Nat.le_refl _⟩, ⟨by (with_reducible repeat (first | refine kN ?_ _ | refine kD ?_ | refine kA ?_ _)); refine blk_far ?_ NB276_283.out _; (with_reducible repeat (first | refine kN ?_ _ | refine kD ?_ | refine kA ?_ _)); refine blk_far ?_ NB276_283.out _; (with_reducible repeat (first | refine kN ?_ _ | refine kD ?_ | refine kA ?_ _)); refine blk_far ?_ NB276_282.out _; (with_reducible repeat (first | refine kN ?_ _ | refine kD ?_ | refine kA ?_ _)); refine blk_far ?_ NB276_282.out _; (with_reducible repeat (first | refine kN ?_ _ | refine kD ?_ | refine kA ?_ _)); exact BK276.out⟩, ⟨by (with_reducible repeat (first | refine kN ?_ _ | refine kD ?_ | refine kA ?_ _)); refine blk_far ?_ NB278_283.out _; (with_reducible repeat (first | refine kN ?_ _ | refine kD ?_ | refine kA ?_ _)); refine blk_far ?_ NB278_283.out _; (with_reducible repeat (first | refine kN ?_ _ | refine kD ?_ | refine kA ?_ _)); refine blk_far ?_ NB278_282.out _; (with_reducible repeat (first | refine kN ?_ _ | refine kD ?_ | refine kA ?_ _)); refine blk_far ?_ NB278_282.out _; (with_reducible repeat (first | refine kN ?_ _ | refine kD ?_ | refine kA ?_ _)); exact BK278.out⟩, ⟨by (with_reducible repeat (first | refine kN ?_ _ | refine kD ?_ | refine kA ?_ _)); refine blk_far ?_ NB280_283.out _; (with_reducible repeat (first | refine kN ?_ _ | refine kD ?_ | refine kA ?_ _)); refine blk_far ?_ NB280_283.out _; (with_reducible repeat (first | refine kN ?_ _ | refine kD ?_ | refine kA ?_ _)); refine blk_far ?_ NB280_282.out _; (with_reducible repeat (first | refine kN ?_ _ | refine kD ?_ | refine kA ?_ _)); refine blk_far ?_ NB280_282.out _; (with_reducible repeat (first | refine kN ?_ _ | refine kD ?_ | refine kA ?_ _)); exact BK280.out⟩, ⟨by (with_reducible repeat (first | refine kN ?_ _ | refine kD ?_ | refine kA ?_ _)); refine blk_far ?_ NB282_283.out _; (with_reducible repeat (first | refine kN ?_ _ | refine kD ?_ | refine kA ?_ _)); refine blk_far ?_ NB282_283.out _; (with_reducible repeat (first | refine kN ?_ _ | refine kD ?_ | refine kA ?_ _)); refine blk_put (cs := #[.int .i64 ((rd_impl_Peg l0 x13_1).f0), .int .i64 0]) ?_ 1 _ rfl; (with_reducible repeat (first | refine kN ?_ _ | refine kD ?_ | refine kA ?_ _)); refine blk_put (cs := #[.int .i64 0, .int .i64 0]) ?_ 0 _ rfl; (with_reducible repeat (first | refine kN ?_ _ | refine kD ?_ | refine kA ?_ _)); exact BK282.out⟩, ⟨by (with_reducible repeat (first | refine kN ?_ _ | refine kD ?_ | refine kA ?_ _)); refine blk_put (cs := #[.int .i64 ((rd_impl_Peg l0 (ji8)).f0), .int .i64 0]) ?_ 1 _ rfl; (with_reducible repeat (first | refine kN ?_ _ | refine kD ?_ | refine kA ?_ _)); refine blk_put (cs := #[.int .i64 0, .int .i64 0]) ?_ 0 _ rfl; (with_reducible repeat (first | refine kN ?_ _ | refine kD ?_ | refine kA ?_ _)); refine blk_far ?_ NB283_282.out _; (with_reducible repeat (first | refine kN ?_ _ | refine kD ?_ | refine kA ?_ _)); refine blk_far ?_ NB283_282.out _; (with_reducible repeat (first | refine kN ?_ _ | refine kD ?_ | refine kA ?_ _)); exact BK283.out⟩, ⟨by repeat (first | (with_reducible first | exact HB.out | apply pA | apply pN | apply pD | refine pS ?_ GE276.out | refine pS ?_ GE278.out | refine pS ?_ GE280.out | refine pS ?_ GE282.out | refine pS ?_ GE283.out) | exact HB.out)⟩⟩
          case rest =>
           clear HC23
           try clear c1
           try clear c2
           try clear p2
           try clear q2
           try clear hx2
           try clear c4
           try clear c4b0
           try clear c5
           try clear c5b0
           try clear c6
           try clear c6b0
           try clear p6
           try clear c7
           try clear c7b0
           try clear c7b1
           try clear c7b2
           try clear c8
           try clear c9
           try clear c9b0
           try clear c10
           try clear c10b0
           try clear c12
           try clear c14
           try clear c17
           try clear c18
           try clear c25
           try clear p27
           try clear q27
           try clear hx27
           try clear c28
           try clear c29
           try clear c42
           try clear c43
           try clear c44
           try clear c45
           try clear c47
           try clear c48
           try clear c49
           try clear c51
           try clear c51b0
           try clear c52
           try clear c53
           try clear c54
           try clear c55
           try clear c57
           try clear c58
           try clear c59
           try clear c61
           try clear c62
           try clear c64
           try clear p64
           try clear hcz15_0
           try clear hcz15_1
           try clear hcz19_0
           try clear hcz19_1
           try clear hcz20_0
           try clear hcz20_1
           try clear hcz21_0
           try clear hcz21_1
           try clear hcz26_0
           try clear hcz26_1
           try clear hcz30_0
           try clear hcz30_1
           try clear hcz31_0
           try clear hcz31_1
           try clear hcz32_0
           try clear hcz32_1
           try clear hcz46_0
           try clear hcz46_1
           try clear hcz50_0
           try clear hcz50_1
           try clear hcz56_0
           try clear hcz56_1
           try clear hcz60_0
           try clear hcz60_1
           try clear hcz63_0
           try clear hcz63_1
           try clear hcz65_0
           try clear hcz65_1
           try clear hfz15_0
           try clear hfz15_1
           try clear hfz19_0
           try clear hfz19_1
           try clear hfz20_0
           try clear hfz20_1
           try clear hfz21_0
           try clear hfz21_1
           try clear hfz26_0
           try clear hfz26_1
           try clear hfz30_0
           try clear hfz30_1
           try clear hfz31_0
           try clear hfz31_1
           try clear hfz32_0
           try clear hfz32_1
           try clear hfz46_0
           try clear hfz46_1
           try clear hfz50_0
           try clear hfz50_1
           try clear hfz56_0
           try clear hfz56_1
           try clear hfz60_0
           try clear hfz60_1
           try clear hfz63_0
           try clear hfz63_1
           try clear hfz65_0
           try clear hfz65_1
           try clear hx277_0
           try clear hx277_1
           try clear hx279_0
           try clear hx279_1
           try clear p2
           try clear p277
           try clear p279
           try clear q277
           try clear q279
           obtain ⟨kq, x283000_22, x283001_22, x284000_22, x284001_22, HA, HJ22, BK276, BK278, BK280, BK282, BK283, HB⟩ := hcut
           cases kq with
           | zero => exact absurd HA.out (by simp [spec_pgWhere.j1])
           | succ kj22 =>
            have H := HA.out
            clear HA
            simp only [spec_pgWhere.j1] at H
            have HC66 := aM H
            clear H
            go_upto_region 12 with (fail)
            go_cut [57] (fun v57 wc => ∃ (kq : Nat) (x57_65 : Bool), v57 = .bool x57_65 ∧ Aside0 (spec_pgWhere.j2 kq l0 x5_1 l0 (l0.length : Int) x13_1 x57_65 a1_0 a1_1 = some r) ∧ Aside0 (kq ≤ kj22) ∧ Aside0 (wc.heap[gb276]? = some (.cells #[.int .i64 a1_0, .int .i64 a1_1] 34 (0, 0))) ∧ Aside0 (wc.heap[gb278]? = some (.cells #[.int .i64 ((rd_impl_Peg l0 x13_1).f0), .int .i64 ((rd_impl_Peg l0 x13_1).f1)] 34 (0, 0))) ∧ Aside0 (wc.heap[gb280]? = some (.cells #[.int .i64 ((rd_impl_Peg l0 (ji8)).f0), .int .i64 ((rd_impl_Peg l0 (ji8)).f1)] 34 (0, 0))) ∧ Aside0 (wc.heap[gb282]? = some (.cells #[.int .i64 x283000_22, .int .i64 x283001_22] 34 (0, 0))) ∧ Aside0 (wc.heap[gb283]? = some (.cells #[.int .i64 x284000_22, .int .i64 x284001_22] 34 (0, 0))) ∧ Aside0 (Below w.heap.size w wc))
            case first =>
             have H := HC66.out
             clear HC66
             by_cases c67 : x283001_22 ≤ a1_1
             ·rw [if_pos c67] at H
              have c67b0 : decide (x283001_22 ≤ a1_1) = true := dE c67
              clear c67
              (first | rw [c67b0] | (simp only [i64_w, i32_w]; rw [c67b0]) | skip)
              by_cases c68 : a1_1 < x284001_22
              ·rw [if_pos c68] at H
               have c68b0 : decide (a1_1 < x284001_22) = true := dE c68
               clear c68
               replace H := oB.mp H
               obtain ⟨t284, A690, H⟩ := H
               replace H : (spec_pgWhere.j2 kj22 l0 x5_1 l0 (l0.length : Int) x13_1 (decide (t284 > 0)) a1_0 a1_1) = some r := H
               have A69 := aM A690
               clear A690
               have H' := aM H
               clear H
               have hnb70 := NB282_276.out
               have hnc70 := NB276_282.out
               have hnb71 := NB282_278.out
               have hnc71 := NB278_282.out
               have hnb72 := NB282_280.out
               have hnc72 := NB280_282.out
               have hnb73 := NB282_283.out
               have hnc73 := NB283_282.out
               have hcz74_0 : wc.cell? ⟨gb282, 0, none⟩ = some (.int .i64 x283000_22) := (kC BK282.out 0).trans rfl
               have hcz74_1 : wc.cell? ⟨gb282, 1, none⟩ = some (.int .i64 x283001_22) := (kC BK282.out 1).trans rfl
               have hfz74_0 := kF BK282.out 0
               have hfz74_1 := kF BK282.out 1
               have hnb75 := NB276_278.out
               have hnc75 := NB278_276.out
               have hnb76 := NB276_280.out
               have hnc76 := NB280_276.out
               have hnb77 := NB276_283.out
               have hnc77 := NB283_276.out
               have hcz78_0 : wc.cell? ⟨gb276, 0, none⟩ = some (.int .i64 a1_0) := (kC BK276.out 0).trans rfl
               have hcz78_1 : wc.cell? ⟨gb276, 1, none⟩ = some (.int .i64 a1_1) := (kC BK276.out 1).trans rfl
               have hfz78_0 := kF BK276.out 0
               have hfz78_1 := kF BK276.out 1
               have hnb79 := NB283_278.out
               have hnc79 := NB278_283.out
               have hnb80 := NB283_280.out
               have hnc80 := NB280_283.out
               have hcz81_0 : wc.cell? ⟨gb283, 0, none⟩ = some (.int .i64 x284000_22) := (kC BK283.out 0).trans rfl
               have hcz81_1 : wc.cell? ⟨gb283, 1, none⟩ = some (.int .i64 x284001_22) := (kC BK283.out 1).trans rfl
               have hfz81_0 := kF BK283.out 0
               have hfz81_1 := kF BK283.out 1
               go_wp2_with (first | (go_at_call 134; (with_reducible refine (spec_pgTurn.calls x283000_22 x283001_22 x284000_22 x284001_22 a1_0 a1_1 t284 _ A69.out).mono ?_); rintro e w82 ⟨rfl, hb⟩; have n0_ := aM (blk_below (g := gb276) (o := .cells #[.int .i64 a1_0, .int .i64 a1_1] 34 (0, 0)) (gQ BK276) hb); have n1_ := aM (blk_below (g := gb278) (o := .cells #[.int .i64 ((rd_impl_Peg l0 x13_1).f0), .int .i64 ((rd_impl_Peg l0 x13_1).f1)] 34 (0, 0)) (gQ BK278) hb); have n2_ := aM (blk_below (g := gb280) (o := .cells #[.int .i64 ((rd_impl_Peg l0 (ji8)).f0), .int .i64 ((rd_impl_Peg l0 (ji8)).f1)] 34 (0, 0)) (gQ BK280) hb); have n3_ := aM (blk_below (g := gb282) (o := .cells #[.int .i64 x283000_22, .int .i64 x283001_22] 34 (0, 0)) (gQ BK282) hb); have n4_ := aM (blk_below (g := gb283) (o := .cells #[.int .i64 x284000_22, .int .i64 x284001_22] 34 (0, 0)) (gQ BK283) hb); have n5_ := aM (pT (by repeat (first | (with_reducible first | exact HB.out | apply pA | apply pN | apply pD | refine pS ?_ GE276.out | refine pS ?_ GE278.out | refine pS ?_ GE280.out | refine pS ?_ GE282.out | refine pS ?_ GE283.out) | exact HB.out)) hb); clear BK276; clear BK278; clear BK280; clear BK282; clear BK283; clear HB; have BK276 := n0_; have BK278 := n1_; have BK280 := n2_; have BK282 := n3_; have BK283 := n4_; have HB := n5_; clear n0_ n1_ n2_ n3_ n4_ n5_; (try clear hb); (try clear hb2); (try clear hk); (try clear hi)))
               go_meet
               case rel => exact ⟨_, (decide (t284 > 0)), eQ, H', ⟨by have := HK1.out; have := HJ22.out; first | omega | exact Nat.le_refl _⟩, ⟨by (with_reducible repeat (first | refine kN ?_ _ | refine kD ?_ | refine kA ?_ _)); exact BK276.out⟩, ⟨by (with_reducible repeat (first | refine kN ?_ _ | refine kD ?_ | refine kA ?_ _)); exact BK278.out⟩, ⟨by (with_reducible repeat (first | refine kN ?_ _ | refine kD ?_ | refine kA ?_ _)); exact BK280.out⟩, ⟨by (with_reducible repeat (first | refine kN ?_ _ | refine kD ?_ | refine kA ?_ _)); exact BK282.out⟩, ⟨by (with_reducible repeat (first | refine kN ?_ _ | refine kD ?_ | refine kA ?_ _)); exact BK283.out⟩, ⟨by repeat (first | (with_reducible first | exact HB.out | apply pA | apply pN | apply pD | refine pS ?_ GE276.out | refine pS ?_ GE278.out | refine pS ?_ GE280.out | refine pS ?_ GE282.out | refine pS ?_ GE283.out) | exact HB.out)⟩⟩
              ·rw [if_neg c68] at H
               have c68b0 : decide (a1_1 < x284001_22) = false := decide_eq_false c68
               clear c68
               have H' := aM H
               clear H
               have hnb83 := NB282_276.out
               have hnc83 := NB276_282.out
               have hnb84 := NB282_278.out
               have hnc84 := NB278_282.out
               have hnb85 := NB282_280.out
               have hnc85 := NB280_282.out
               have hnb86 := NB282_283.out
               have hnc86 := NB283_282.out
               have hcz87_0 : wc.cell? ⟨gb282, 0, none⟩ = some (.int .i64 x283000_22) := (kC BK282.out 0).trans rfl
               have hcz87_1 : wc.cell? ⟨gb282, 1, none⟩ = some (.int .i64 x283001_22) := (kC BK282.out 1).trans rfl
               have hfz87_0 := kF BK282.out 0
               have hfz87_1 := kF BK282.out 1
               have hnb88 := NB276_278.out
               have hnc88 := NB278_276.out
               have hnb89 := NB276_280.out
               have hnc89 := NB280_276.out
               have hnb90 := NB276_283.out
               have hnc90 := NB283_276.out
               have hcz91_0 : wc.cell? ⟨gb276, 0, none⟩ = some (.int .i64 a1_0) := (kC BK276.out 0).trans rfl
               have hcz91_1 : wc.cell? ⟨gb276, 1, none⟩ = some (.int .i64 a1_1) := (kC BK276.out 1).trans rfl
               have hfz91_0 := kF BK276.out 0
               have hfz91_1 := kF BK276.out 1
               have hnb92 := NB283_278.out
               have hnc92 := NB278_283.out
               have hnb93 := NB283_280.out
               have hnc93 := NB280_283.out
               have hcz94_0 : wc.cell? ⟨gb283, 0, none⟩ = some (.int .i64 x284000_22) := (kC BK283.out 0).trans rfl
               have hcz94_1 : wc.cell? ⟨gb283, 1, none⟩ = some (.int .i64 x284001_22) := (kC BK283.out 1).trans rfl
               have hfz94_0 := kF BK283.out 0
               have hfz94_1 := kF BK283.out 1
               go_wp2
               go_meet
               case rel => exact ⟨_, (false), eQ, H', ⟨by have := HK1.out; have := HJ22.out; first | omega | exact Nat.le_refl _⟩, ⟨by (with_reducible repeat (first | refine kN ?_ _ | refine kD ?_ | refine kA ?_ _)); exact BK276.out⟩, ⟨by (with_reducible repeat (first | refine kN ?_ _ | refine kD ?_ | refine kA ?_ _)); exact BK278.out⟩, ⟨by (with_reducible repeat (first | refine kN ?_ _ | refine kD ?_ | refine kA ?_ _)); exact BK280.out⟩, ⟨by (with_reducible repeat (first | refine kN ?_ _ | refine kD ?_ | refine kA ?_ _)); exact BK282.out⟩, ⟨by (with_reducible repeat (first | refine kN ?_ _ | refine kD ?_ | refine kA ?_ _)); exact BK283.out⟩, ⟨by repeat (first | (with_reducible first | exact HB.out | apply pA | apply pN | apply pD | refine pS ?_ GE276.out | refine pS ?_ GE278.out | refine pS ?_ GE280.out | refine pS ?_ GE282.out | refine pS ?_ GE283.out) | exact HB.out)⟩⟩
             ·rw [if_neg c67] at H
              have c67b0 : decide (x283001_22 ≤ a1_1) = false := decide_eq_false c67
              clear c67
              (first | rw [c67b0] | (simp only [i64_w, i32_w]; rw [c67b0]) | skip)
              have H' := aM H
              clear H
              have hnb95 := NB282_276.out
              have hnc95 := NB276_282.out
              have hnb96 := NB282_278.out
              have hnc96 := NB278_282.out
              have hnb97 := NB282_280.out
              have hnc97 := NB280_282.out
              have hnb98 := NB282_283.out
              have hnc98 := NB283_282.out
              have hcz99_0 : wc.cell? ⟨gb282, 0, none⟩ = some (.int .i64 x283000_22) := (kC BK282.out 0).trans rfl
              have hcz99_1 : wc.cell? ⟨gb282, 1, none⟩ = some (.int .i64 x283001_22) := (kC BK282.out 1).trans rfl
              have hfz99_0 := kF BK282.out 0
              have hfz99_1 := kF BK282.out 1
              have hnb100 := NB276_278.out
              have hnc100 := NB278_276.out
              have hnb101 := NB276_280.out
              have hnc101 := NB280_276.out
              have hnb102 := NB276_283.out
              have hnc102 := NB283_276.out
              have hcz103_0 : wc.cell? ⟨gb276, 0, none⟩ = some (.int .i64 a1_0) := (kC BK276.out 0).trans rfl
              have hcz103_1 : wc.cell? ⟨gb276, 1, none⟩ = some (.int .i64 a1_1) := (kC BK276.out 1).trans rfl
              have hfz103_0 := kF BK276.out 0
              have hfz103_1 := kF BK276.out 1
              go_wp2
              go_meet
              case rel => exact ⟨_, (false), eQ, H', ⟨by have := HK1.out; have := HJ22.out; first | omega | exact Nat.le_refl _⟩, ⟨by (with_reducible repeat (first | refine kN ?_ _ | refine kD ?_ | refine kA ?_ _)); exact BK276.out⟩, ⟨by (with_reducible repeat (first | refine kN ?_ _ | refine kD ?_ | refine kA ?_ _)); exact BK278.out⟩, ⟨by (with_reducible repeat (first | refine kN ?_ _ | refine kD ?_ | refine kA ?_ _)); exact BK280.out⟩, ⟨by (with_reducible repeat (first | refine kN ?_ _ | refine kD ?_ | refine kA ?_ _)); exact BK282.out⟩, ⟨by (with_reducible repeat (first | refine kN ?_ _ | refine kD ?_ | refine kA ?_ _)); exact BK283.out⟩, ⟨by repeat (first | (with_reducible first | exact HB.out | apply pA | apply pN | apply pD | refine pS ?_ GE276.out | refine pS ?_ GE278.out | refine pS ?_ GE280.out | refine pS ?_ GE282.out | refine pS ?_ GE283.out) | exact HB.out)⟩⟩
            case rest =>
             clear HC66
             try clear c1
             try clear c2
             try clear p2
             try clear q2
             try clear hx2
             try clear c4
             try clear c4b0
             try clear c5
             try clear c5b0
             try clear c6
             try clear c6b0
             try clear p6
             try clear c7
             try clear c7b0
             try clear c7b1
             try clear c7b2
             try clear c8
             try clear c9
             try clear c9b0
             try clear c10
             try clear c10b0
             try clear c12
             try clear c14
             try clear c17
             try clear c18
             try clear c25
             try clear p27
             try clear q27
             try clear hx27
             try clear c28
             try clear c29
             try clear c42
             try clear c43
             try clear c44
             try clear c45
             try clear c47
             try clear c48
             try clear c49
             try clear c51
             try clear c51b0
             try clear c52
             try clear c53
             try clear c54
             try clear c55
             try clear c57
             try clear c58
             try clear c59
             try clear c61
             try clear c62
             try clear c64
             try clear p64
             try clear c67
             try clear c67b0
             try clear c68
             try clear c68b0
             try clear c70
             try clear c71
             try clear c72
             try clear c73
             try clear c75
             try clear c76
             try clear c77
             try clear c79
             try clear c80
             try clear c83
             try clear c84
             try clear c85
             try clear c86
             try clear c88
             try clear c89
             try clear c90
             try clear c92
             try clear c93
             try clear c95
             try clear c96
             try clear c97
             try clear c98
             try clear c100
             try clear c101
             try clear c102
             try clear hcz103_0
             try clear hcz103_1
             try clear hcz15_0
             try clear hcz15_1
             try clear hcz19_0
             try clear hcz19_1
             try clear hcz20_0
             try clear hcz20_1
             try clear hcz21_0
             try clear hcz21_1
             try clear hcz26_0
             try clear hcz26_1
             try clear hcz30_0
             try clear hcz30_1
             try clear hcz31_0
             try clear hcz31_1
             try clear hcz32_0
             try clear hcz32_1
             try clear hcz46_0
             try clear hcz46_1
             try clear hcz50_0
             try clear hcz50_1
             try clear hcz56_0
             try clear hcz56_1
             try clear hcz60_0
             try clear hcz60_1
             try clear hcz63_0
             try clear hcz63_1
             try clear hcz65_0
             try clear hcz65_1
             try clear hcz74_0
             try clear hcz74_1
             try clear hcz78_0
             try clear hcz78_1
             try clear hcz81_0
             try clear hcz81_1
             try clear hcz87_0
             try clear hcz87_1
             try clear hcz91_0
             try clear hcz91_1
             try clear hcz94_0
             try clear hcz94_1
             try clear hcz99_0
             try clear hcz99_1
             try clear hfz103_0
             try clear hfz103_1
             try clear hfz15_0
             try clear hfz15_1
             try clear hfz19_0
             try clear hfz19_1
             try clear hfz20_0
             try clear hfz20_1
             try clear hfz21_0
             try clear hfz21_1
             try clear hfz26_0
             try clear hfz26_1
             try clear hfz30_0
             try clear hfz30_1
             try clear hfz31_0
             try clear hfz31_1
             try clear hfz32_0
             try clear hfz32_1
             try clear hfz46_0
             try clear hfz46_1
             try clear hfz50_0
             try clear hfz50_1
             try clear hfz56_0
             try clear hfz56_1
             try clear hfz60_0
             try clear hfz60_1
             try clear hfz63_0
             try clear hfz63_1
             try clear hfz65_0
             try clear hfz65_1
             try clear hfz74_0
             try clear hfz74_1
             try clear hfz78_0
             try clear hfz78_1
             try clear hfz81_0
             try clear hfz81_1
             try clear hfz87_0
             try clear hfz87_1
             try clear hfz91_0
             try clear hfz91_1
             try clear hfz94_0
             try clear hfz94_1
             try clear hfz99_0
             try clear hfz99_1
             try clear hx277_0
             try clear hx277_1
             try clear hx279_0
             try clear hx279_1
             try clear p2
             try clear p27
             try clear p277
             try clear p279
             try clear p6
             try clear p64
             try clear q2
             try clear q27
             try clear q277
             try clear q279
             obtain ⟨kq, x57_65, rfl, HA, HJ65, BK276, BK278, BK280, BK282, BK283, HB⟩ := hcut
             cases kq with
             | zero => exact absurd HA.out (by simp [spec_pgWhere.j2])
             | succ kj65 =>
              have H := HA.out
              clear HA
              simp only [spec_pgWhere.j2] at H
              by_cases c104 : x57_65 = true
              ·subst c104
               have H1 : (spec_pgWhere.l0 kj65 l0 (!x5_1) l0 (l0.length : Int) (wrap64 (x13_1 + 1)) a1_0 a1_1) = some r := by rw [if_pos rfl] at H; exact H
               clear H
               have H := H1
               clear H1
               have H' := aM H
               clear H
               go_wp2
               go_roundg kj65
               case measure => have := HK1.out; have := HJ22.out; have := HJ65.out; omega
               case rel => exact ⟨(!x5_1), (wrap64 (x13_1 + 1)), eQ, eQ, H', ⟨by have := HK1.out; have := HJ22.out; have := HJ65.out; omega⟩, ⟨by (with_reducible repeat (first | refine kN ?_ _ | refine kD ?_ | refine kA ?_ _)); exact BK276.out⟩, ⟨by repeat (first | (with_reducible first | exact HB.out | apply pA | apply pN | apply pD | refine pS ?_ GE276.out | refine pS ?_ GE278.out | refine pS ?_ GE280.out | refine pS ?_ GE282.out | refine pS ?_ GE283.out) | exact HB.out)⟩⟩
              ·replace c104 := Bool.eq_false_iff.mpr c104
               subst c104
               have H1 : (spec_pgWhere.l0 kj65 l0 x5_1 l0 (l0.length : Int) (wrap64 (x13_1 + 1)) a1_0 a1_1) = some r := by rw [if_neg (show ¬ (false = true) by decide)] at H; exact H
               clear H
               have H := H1
               clear H1
               have H' := aM H
               clear H
               go_wp2
               go_roundg kj65
               case measure => have := HK1.out; have := HJ22.out; have := HJ65.out; omega
               case rel => exact ⟨(x5_1), (wrap64 (x13_1 + 1)), eQ, eQ, H', ⟨by have := HK1.out; have := HJ22.out; have := HJ65.out; omega⟩, ⟨by (with_reducible repeat (first | refine kN ?_ _ | refine kD ?_ | refine kA ?_ _)); exact BK276.out⟩, ⟨by repeat (first | (with_reducible first | exact HB.out | apply pA | apply pN | apply pD | refine pS ?_ GE276.out | refine pS ?_ GE278.out | refine pS ?_ GE280.out | refine pS ?_ GE282.out | refine pS ?_ GE283.out) | exact HB.out)⟩⟩
        ·rw [if_neg c10] at H
         exact absurd H (by simp)
       ·rw [if_neg c9] at H
        exact absurd H (by simp)
     ·rw [if_neg c6] at H
      exact absurd H (by simp)
    ·rw [if_neg c5] at H
     exact absurd H (by simp)
   ·rw [if_neg c4] at H
    have c4b0 : decide (x13_1 < (l0.length : Int)) = false := decide_eq_false c4
    clear c4
    by_cases c105 : x5_1 = true
    ·subst c105
     have H1 : (some 1) = some r := by rw [if_pos rfl] at H; exact H
     clear H
     have H := H1
     clear H1
     obtain rfl := Option.some.inj H
     go_wp2
     go_ret
     exact ⟨by first | rfl | (simp [errW_none, errW_some] <;> rfl) | (simp [*, errW_none, errW_some] <;> rfl), by repeat (first | (with_reducible first | exact HB.out | apply pA | apply pN | apply pD | refine pS ?_ GE276.out) | exact HB.out)⟩
    ·replace c105 := Bool.eq_false_iff.mpr c105
     subst c105
     have H1 : (some (-1)) = some r := by rw [if_neg (show ¬ (false = true) by decide)] at H; exact H
     clear H
     have H := H1
     clear H1
     obtain rfl := Option.some.inj H
     go_wp2
     go_ret
     exact ⟨by first | rfl | (simp [errW_none, errW_some] <;> rfl) | (simp [*, errW_none, errW_some] <;> rfl), by repeat (first | (with_reducible first | exact HB.out | apply pA | apply pN | apply pD | refine pS ?_ GE276.out) | exact HB.out)⟩

end Go.Proofs.Ytiacfkilmknldaa.X
