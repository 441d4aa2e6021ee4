-- thin
-- short
-- compact
import Derived.Test.YtajfdfaembcodaaXA
import Derived.Test.YtajfdfaembcodaaX0
import Derived.Test.YtajfdfaembcodaaX3
namespace Go.Proofs.Ytajfdfaembcodaa.X
open Go.RowKit Go.Proofs.Ytajfdfaembcodaa.XW Go.Proofs.YtajfdfaembcodaaW.PrintWords Go.Proofs.YtajfdfaembcodaaW.PrintLast Go.Proofs.YtajfdfaembcodaaW.PrintMore
attribute [local go_sem] max2_int min2_int max_two min_two max_three min_three max_four min_four   -- for this text's walks alone
set_option linter.unusedVariables false
set_option linter.unusedSimpArgs false

mutual
def spec_pzAll.l0 : Nat → Int → List (S_impl_Clue) → List (S_impl_Peg) → Int → Option ((List (S_impl_Peg)))
 | 0, _, _, _, _ => none
 | k + 1, x0, x1, x5, x6 => if x6 ≤ x0 then (spec_pzAll.l1 k x0 x1 x5 x6 0) else (some x5)
def spec_pzAll.l1 : Nat → Int → List (S_impl_Clue) → List (S_impl_Peg) → Int → Int → Option ((List (S_impl_Peg)))
 | 0, _, _, _, _, _ => none
 | k + 1, x0, x1, x5, x6, x7 => if x7 ≤ x0 then (spec_pzAll.l2 k x0 x1 x5 x6 x7 true x1 (x1.length : Int) 0 x6 x7) else (spec_pzAll.l0 k x0 x1 x5 (wrap64 (x6 + 1)))
def spec_pzAll.l2 : Nat → Int → List (S_impl_Clue) → List (S_impl_Peg) → Int → Int → Bool → List (S_impl_Clue) → Int → Int → Int → Int → Option ((List (S_impl_Peg)))
 | 0, _, _, _, _, _, _, _, _, _, _, _ => none
 | k + 1, x0, x1, x5, x6, x7, x9, x25, x26, x27, x142000, x142001 => if x27 < x26 then (if 0 ≤ x27 then (if x27 < (x25.length : Int) then (if x9 = true then ((spec_pzFits.f k ((rd_impl_Clue x25 x27).f0) ((rd_impl_Clue x25 x27).f1) ((rd_impl_Clue x25 x27).f2) ((rd_impl_Clue x25 x27).f3) x142000 x142001).bind fun t144 => (spec_pzAll.l2 k x0 x1 x5 x6 x7 t144 x25 x26 (wrap64 (x27 + 1)) x142000 x142001)) else (spec_pzAll.l2 k x0 x1 x5 x6 x7 false x25 x26 (wrap64 (x27 + 1)) x142000 x142001)) else (none)) else (none)) else (if x9 = true then (if x5.length < 8796093022208 then (spec_pzAll.l1 k x0 x1 (x5 ++ [(⟨x142000, x142001⟩ : S_impl_Peg)]) x6 (wrap64 (x7 + 1))) else (none)) else (spec_pzAll.l1 k x0 x1 x5 x6 (wrap64 (x7 + 1))))
end
def spec_pzAll.f (k : Nat) (a0 : Int) (l1 : List (S_impl_Clue)) : Option ((List (S_impl_Peg))) := spec_pzAll.l0 k a0 l1 ([] : List (S_impl_Peg)) 0
theorem spec_pzAll.mono_l : ∀ k, (∀ y0 y1 y2 y3, LeO (spec_pzAll.l0 k y0 y1 y2 y3) (spec_pzAll.l0 (k + 1) y0 y1 y2 y3)) ∧ (∀ y0 y1 y2 y3 y4, LeO (spec_pzAll.l1 k y0 y1 y2 y3 y4) (spec_pzAll.l1 (k + 1) y0 y1 y2 y3 y4)) ∧ (∀ y0 y1 y2 y3 y4 y5 y6 y7 y8 y9 y10, LeO (spec_pzAll.l2 k y0 y1 y2 y3 y4 y5 y6 y7 y8 y9 y10) (spec_pzAll.l2 (k + 1) y0 y1 y2 y3 y4 y5 y6 y7 y8 y9 y10))
 | 0 => ⟨fun _ _ _ _ r h => by simp [spec_pzAll.l0] at h, fun _ _ _ _ _ r h => by simp [spec_pzAll.l1] at h, fun _ _ _ _ _ _ _ _ _ _ _ r h => by simp [spec_pzAll.l2] at h⟩
 | k + 1 => by
  obtain ⟨ih0, ih1, ih2⟩ := spec_pzAll.mono_l k
  refine ⟨?_, ?_, ?_⟩ <;> intros <;> (first | unfold spec_pzAll.l0 | unfold spec_pzAll.l1 | unfold spec_pzAll.l2) <;> repeat' first | (with_reducible exact ih0 _ _ _ _) | (with_reducible exact ih1 _ _ _ _ _) | (with_reducible exact ih2 _ _ _ _ _ _ _ _ _ _ _) | (with_reducible exact spec_pzFits.mono _ _ _ _ _ _ _) | (with_reducible exact LeO.refl _) | (with_reducible exact LeO.none _) | (with_reducible refine LeO.ite ?_ ?_) | (with_reducible refine LeO.bind ?_ (fun _ => ?_)) | exact ih0 _ _ _ _ | exact ih1 _ _ _ _ _ | exact ih2 _ _ _ _ _ _ _ _ _ _ _ | exact spec_pzFits.mono _ _ _ _ _ _ _ | exact LeO.none _ | refine LeO.ite ?_ ?_ | refine LeO.bind ?_ (fun _ => ?_)
theorem spec_pzAll.mono : ∀ a0 a1 k, LeO (spec_pzAll.f k a0 a1) (spec_pzAll.f (k + 1) a0 a1) := by
 intro a0 a1 k
 obtain ⟨ih0, ih1, ih2⟩ := spec_pzAll.mono_l k
 unfold spec_pzAll.f
 repeat' first | (with_reducible exact ih0 _ _ _ _) | (with_reducible exact ih1 _ _ _ _ _) | (with_reducible exact ih2 _ _ _ _ _ _ _ _ _ _ _) | (with_reducible exact spec_pzFits.mono _ _ _ _ _ _ _) | (with_reducible exact LeO.refl _) | (with_reducible exact LeO.none _) | (with_reducible refine LeO.ite ?_ ?_) | (with_reducible refine LeO.bind ?_ (fun _ => ?_)) | exact ih0 _ _ _ _ | exact ih1 _ _ _ _ _ | exact ih2 _ _ _ _ _ _ _ _ _ _ _ | exact spec_pzFits.mono _ _ _ _ _ _ _ | exact LeO.none _ | refine LeO.ite ?_ ?_ | refine LeO.bind ?_ (fun _ => ?_)
set_option maxHeartbeats 8000000 in
set_option maxRecDepth 100000 in
theorem spec_pzAll.calls (k : Nat) (a0 : Int) (A1 : Option Addr) (c1 : Nat) (l1 : List (S_impl_Clue)) (r : List (S_impl_Peg)) (w : World) (hr1 : Kd.C kd_impl_Clue w A1 l1.length l1) (hc1 : l1.length ≤ c1) (h : spec_pzAll.f k a0 l1 = some r) :
  Calls Try.prog 28 #[.int .i64 a0, .slice A1 l1.length c1] w fun e w' => ∃ v0_ : Value, e = .returned (v0_) ∧ Kd.R kd_impl_Peg 54 w' w.heap.size (fun _ => True) v0_ r ∧ Below w.heap.size w w' := by
 have hu54 := Try.underlying54; have hu61 := Try.underlying61; have HR1 := aM hr1; have HC1 := aM hc1; clear hr1 hc1; have HB := aM (Below.refl w.heap.size w)
 unfold spec_pzAll.f at h; have H := h; clear h
 have H' := aM H; clear H
 go_enter Try.func28, Try.ntmps28
 go_wp2
 go_loopg [5, 6] k (fun kq v5 v6 w' => ∃ (x5_1 : List (S_impl_Peg)) (x6_1 : Int), v6 = .int .i64 x6_1 ∧ Aside0 (spec_pzAll.l0 kq a0 l1 x5_1 x6_1 = some r) ∧ Aside0 (kq ≤ k) ∧ Aside0 (Kd.R kd_impl_Peg 54 w' w.heap.size (fun _ => True) v5 x5_1) ∧ Aside0 (Below w.heap.size w w'))
 case atStart => exact ⟨(([] : List (S_impl_Peg))), (0), eQ, H', ⟨Nat.le_refl _⟩, ⟨by first | exact Kd.R_nil _ _ _ _ _ | exact Kd.N_nil _ _ _ _ _ | exact Kd.V_nil _ _ _ _ _ | exact Kd.Q_nil _ _ _ _ _ | exact Kd.S_nil _ _ _ _ _⟩, ⟨bQ⟩⟩
 case round =>
  clear H'; (try clear c1); obtain ⟨x5_1, x6_1, rfl, HA, HK1, HO_5, HB⟩ := hrel
  cases gk with
  | zero => exact absurd HA.out (by simp [spec_pzAll.l0])
  | succ k1 =>
   have H := HA.out; clear HA
   simp only [spec_pzAll.l0] at H
   by_cases c3 : x6_1 ≤ a0
   ·rw [if_pos c3] at H; have c3b0 := dE c3; clear c3; have H' := aM H; clear H; go_wp2
    go_loopg [5, 7] k1 (fun kq v5 v7 w' => ∃ (x5_2 : List (S_impl_Peg)) (x7_2 : Int), v7 = .int .i64 x7_2 ∧ Aside0 (spec_pzAll.l1 kq a0 l1 x5_2 x6_1 x7_2 = some r) ∧ Aside0 (kq ≤ k1) ∧ Aside0 (Kd.R kd_impl_Peg 54 w' w.heap.size (fun _ => True) v5 x5_2) ∧ Aside0 (Below w.heap.size w w'))
    case atStart => exact ⟨(x5_1), (0), eQ, H', ⟨Nat.le_refl _⟩, ⟨by (with_reducible repeat (first | apply rA | apply rN | apply rD)); exact HO_5.out⟩, ⟨bQ⟩⟩
    case round =>
     clear H'; (try clear c1); (try clear c3); (try clear c3b0); obtain ⟨x5_2, x7_2, rfl, HA, HK2, HO_5, HB⟩ := hrel
     cases gk with
     | zero => exact absurd HA.out (by simp [spec_pzAll.l1])
     | succ k2 =>
      have H := HA.out; clear HA
      simp only [spec_pzAll.l1] at H
      by_cases c4 : x7_2 ≤ a0
      ·rw [if_pos c4] at H; have c4b0 := dE c4; clear c4; have H' := aM H; clear H
       go_wp2_with (first | ((with_reducible refine gate_dst (N := 8) rfl ?_); refine bV 8 (cs := #[.int .i64 0, .int .i64 0]) (t := 54) rfl rfl (by first | (go_simp; done) | (go_simp; rfl)) ?_; intro gb141 hg w5 hbox hb; have BK141 := hbox; have GW141 := gZ HB hg; have GE141 := gZ HB hg; replace HO_5 := aM (Kd.R_below (Kd.R_elderB (by (with_reducible repeat (first | apply rA | apply rN | apply rD)); exact HO_5.out) gb141 (Nat.le_of_eq hg.symm)) hb); replace HB := tB HB hb; clear hb hbox hg; have hcz6_0 := vZ0 BK141; have hcz6_1 := vZ1 BK141; have hfz6_0 := kF BK141.out 0; have hfz6_1 := kF BK141.out 1))
       go_loopg [9, 27] k2 (fun kq v9 v27 w' => ∃ (x9_3 : Bool) (x27_3 : Int), v9 = .bool x9_3 ∧ v27 = .int .i64 x27_3 ∧ Aside0 (spec_pzAll.l2 kq a0 l1 x5_2 x6_1 x7_2 x9_3 l1 (l1.length : Int) x27_3 x6_1 x7_2 = some r) ∧ Aside0 (kq ≤ k2) ∧ Aside0 (Kd.R kd_impl_Peg 54 w' w.heap.size (fun k_ => k_ ≠ gb141) u5 x5_2) ∧ Aside0 (w'.heap[gb141]? = some (.cells #[.int .i64 x6_1, .int .i64 x7_2] 54 (0, 0))) ∧ Aside0 (Below w.heap.size w w'))
       case atStart => exact ⟨(true), (0), eQ, eQ, H', ⟨Nat.le_refl _⟩, ⟨by (with_reducible repeat (first | apply rA | apply rN | apply rD)); exact Kd.R_mono (Kd.R_far (p := ⟨gb141, 1, none⟩) (Kd.R_far (p := ⟨gb141, 0, none⟩) (Kd.R_mono HO_5.out (fun k_ hk => (⟨hk, hk.2⟩ : _ ∧ k_ ≠ gb141))) (fun _ hk => hk.2) (.int .i64 x6_1)) (fun _ hk => hk.2) (.int .i64 x7_2)) (fun _ hk => hk.1.2)⟩, ⟨fQ BK141⟩, ⟨bE⟩⟩
       case round =>
        clear H'; (try clear c1); (try clear c3); (try clear c3b0); (try clear c4); (try clear c4b0); (try clear hcz6_0); (try clear hcz6_1); (try clear hfz6_0); (try clear hfz6_1); obtain ⟨x9_3, x27_3, rfl, rfl, HA, HK3, HO_5, BK141, HB⟩ := hrel
        cases gk with
        | zero => exact absurd HA.out (by simp [spec_pzAll.l2])
        | succ k3 =>
         have H := HA.out; clear HA
         simp only [spec_pzAll.l2] at H
         by_cases c7 : x27_3 < (l1.length : Int)
         ·rw [if_pos c7] at H; have c7b0 := dE c7; clear c7; replace H := iD H; obtain ⟨c8b0, H⟩ := H; replace H := iD H; obtain ⟨c9b0, H⟩ := H
          by_cases c10 : x9_3 = true
          ·subst c10; replace H := iT H; replace H := bS H; obtain ⟨t144, A11, H⟩ := H; have H' := aM H; clear H; have p142 : 0 ≤ (x27_3 : Int) := dT aQ; have q142 : x27_3 < (l1.length : Int) := dT aQ; obtain ⟨ad142, e142, hx142_0, hx142_1, hx142_2, hx142_3⟩ := at_impl_Clue HR1.out x27_3 p142 q142
           cases e142
           replace hx142_0 := hC HB hx142_0; replace hx142_1 := hC HB hx142_1; replace hx142_2 := hC HB hx142_2; replace hx142_3 := hC HB hx142_3; replace p142 := eq_true p142; replace q142 := eq_true q142
           go_wp2_with (first | ((with_reducible refine gate_dst (N := 11) rfl ?_); refine bV 11 (cs := #[.int .i64 0, .int .i64 0, .int .i64 0, .int .i64 0]) (t := 61) rfl rfl (by first | (go_simp; done) | (go_simp; rfl)) ?_; intro gb143 hg w12 hbox hb; have BK143 := hbox; have GW143 := gZ HB hg; have GE143 := gZ HB hg; have NB141_143 := nG BK141 hg; have NB143_141 := nH BK141 hg; replace HO_5 := aM (Kd.R_below (by (with_reducible repeat (first | apply rA | apply rN | apply rD)); exact HO_5.out) hb); replace BK141 := bB BK141 hb; replace HB := tB HB hb; clear hb hbox hg; have hnb13 := NB143_141.out; have hnc13 := NB141_143.out; have hcz14_0 := vZ0 BK143; have hcz14_1 := vZ1 BK143; have hcz14_2 := vZ2 BK143; have hcz14_3 := vZ3 BK143; have hfz14_0 := kF BK143.out 0; have hfz14_1 := kF BK143.out 1; have hfz14_2 := kF BK143.out 2; have hfz14_3 := kF BK143.out 3; have hcz15_0 := vZ0 BK141; have hcz15_1 := vZ1 BK141; have hfz15_0 := kF BK141.out 0; have hfz15_1 := kF BK141.out 1) | (go_at_call 44; (with_reducible refine (spec_pzFits.calls k3 ((rd_impl_Clue l1 x27_3).f0) ((rd_impl_Clue l1 x27_3).f1) ((rd_impl_Clue l1 x27_3).f2) ((rd_impl_Clue l1 x27_3).f3) x6_1 x7_2 t144 _ A11.out).mono ?_); rintro e w16 ⟨rfl, hb⟩; replace HO_5 := aM (Kd.R_below (by (with_reducible repeat (first | apply rA | apply rN | apply rD)); exact (Kd.R_mono (Kd.R_far (p := ⟨gb143, 3, none⟩) (Kd.R_far (p := ⟨gb143, 2, none⟩) (Kd.R_far (p := ⟨gb143, 1, none⟩) (Kd.R_far (p := ⟨gb143, 0, none⟩) (Kd.R_types HO_5.out BK143.out (by decide)) (fun _ hk => hk.2) (.int .i64 ((rd_impl_Clue l1 x27_3).f0))) (fun _ hk => hk.2) (.int .i64 ((rd_impl_Clue l1 x27_3).f1))) (fun _ hk => hk.2) (.int .i64 ((rd_impl_Clue l1 x27_3).f2))) (fun _ hk => hk.2) (.int .i64 ((rd_impl_Clue l1 x27_3).f3))) (fun _ h_ => h_.1))) hb); replace BK141 := aM (blk_below (g := gb141) (o := .cells #[.int .i64 x6_1, .int .i64 x7_2] 54 (0, 0)) (fQ BK141) hb); replace BK143 := aM (blk_below (g := gb143) (o := .cells #[.int .i64 ((rd_impl_Clue l1 x27_3).f0), .int .i64 ((rd_impl_Clue l1 x27_3).f1), .int .i64 ((rd_impl_Clue l1 x27_3).f2), .int .i64 ((rd_impl_Clue l1 x27_3).f3)] 61 (0, 0)) (fQ BK143) hb); replace HB := tB HB hb; (try clear hb); (try clear hb2); (try clear hk); (try clear hi)))
           go_roundg k3
           case measure => have := HK1.out; have := HK2.out; have := HK3.out; omega
           case rel => exact ⟨(t144), (wrap64 (x27_3 + 1)), eQ, eQ, H', ⟨by have := HK1.out; have := HK2.out; have := HK3.out; omega⟩, ⟨by (with_reducible repeat (first | apply rA | apply rN | apply rD)); exact HO_5.out⟩, ⟨gQ BK141⟩, ⟨bE⟩⟩
          ·replace c10 := Bool.eq_false_iff.mpr c10; subst c10; replace H := iF H; have H' := aM H; clear H; have p142 : 0 ≤ (x27_3 : Int) := dT aQ; have q142 : x27_3 < (l1.length : Int) := dT aQ; obtain ⟨ad142, e142, hx142_0, hx142_1, hx142_2, hx142_3⟩ := at_impl_Clue HR1.out x27_3 p142 q142
           cases e142
           replace hx142_0 := hC HB hx142_0; replace hx142_1 := hC HB hx142_1; replace hx142_2 := hC HB hx142_2; replace hx142_3 := hC HB hx142_3; replace p142 := eq_true p142; replace q142 := eq_true q142
           go_wp2_with (first | ((with_reducible refine gate_dst (N := 11) rfl ?_); refine bV 11 (cs := #[.int .i64 0, .int .i64 0, .int .i64 0, .int .i64 0]) (t := 61) rfl rfl (by first | (go_simp; done) | (go_simp; rfl)) ?_; intro gb143 hg w17 hbox hb; have BK143 := hbox; have GW143 := gZ HB hg; have GE143 := gZ HB hg; have NB141_143 := nG BK141 hg; have NB143_141 := nH BK141 hg; replace HO_5 := aM (Kd.R_below (by (with_reducible repeat (first | apply rA | apply rN | apply rD)); exact HO_5.out) hb); replace BK141 := bB BK141 hb; replace HB := tB HB hb; clear hb hbox hg; have hnb18 := NB143_141.out; have hnc18 := NB141_143.out; have hcz19_0 := vZ0 BK143; have hcz19_1 := vZ1 BK143; have hcz19_2 := vZ2 BK143; have hcz19_3 := vZ3 BK143; have hfz19_0 := kF BK143.out 0; have hfz19_1 := kF BK143.out 1; have hfz19_2 := kF BK143.out 2; have hfz19_3 := kF BK143.out 3))
           go_roundg k3
           case measure => have := HK1.out; have := HK2.out; have := HK3.out; omega
           case rel => exact ⟨(false), (wrap64 (x27_3 + 1)), eQ, eQ, H', ⟨by have := HK1.out; have := HK2.out; have := HK3.out; omega⟩, ⟨by (with_reducible repeat (first | apply rA | apply rN | apply rD)); exact Kd.R_mono (Kd.R_far (p := ⟨gb143, 3, none⟩) (Kd.R_far (p := ⟨gb143, 2, none⟩) (Kd.R_far (p := ⟨gb143, 1, none⟩) (Kd.R_far (p := ⟨gb143, 0, none⟩) (Kd.R_types HO_5.out BK143.out (by decide)) (fun _ hk => hk.2) (.int .i64 ((rd_impl_Clue l1 x27_3).f0))) (fun _ hk => hk.2) (.int .i64 ((rd_impl_Clue l1 x27_3).f1))) (fun _ hk => hk.2) (.int .i64 ((rd_impl_Clue l1 x27_3).f2))) (fun _ hk => hk.2) (.int .i64 ((rd_impl_Clue l1 x27_3).f3))) (fun _ hk => hk.1)⟩, ⟨fQ BK141⟩, ⟨bE⟩⟩
         ·rw [if_neg c7] at H; have c7b0 := decide_eq_false c7; clear c7
          by_cases c20 : x9_3 = true
          ·subst c20; replace H := iT H; replace H := iN H; obtain ⟨c21, H⟩ := H; have LMc21 := aM c21; clear c21; obtain ⟨y145, hy145⟩ : ∃ y_ : List (S_impl_Peg), y_ = (x5_2 ++ [(⟨x6_1, x7_2⟩ : S_impl_Peg)]) := ⟨_, rfl⟩; rw [← hy145] at H; have Ny145 := aM hy145; clear hy145; have H' := aM H; clear H; have hcz22_0 : wr.cell? ⟨gb141, 0, none⟩ = some (.int .i64 x6_1) := vZ0 BK141; have hcz22_1 : wr.cell? ⟨gb141, 1, none⟩ = some (.int .i64 x7_2) := vZ1 BK141; have hfz22_0 := kF BK141.out 0; have hfz22_1 := kF BK141.out 1
           go_wp2_with (first | ((with_reducible refine gate_builtin (b := .append) (xs := #[.tmp 39, .tmp 41]) rfl ?_); at_builtin; refine Kd.R_append kd_impl_Peg (w0 := w) w.heap.size rfl (.tmp 39) (.tmp 41) 38 54 (.agg #[(.int .i64 0), (.int .i64 0)]) 16 rfl Try.underlying38 info54 rfl (by decide) (by omega) u5 x5_2 (⟨x6_1, x7_2⟩ : S_impl_Peg) [.int .i64 x6_1, .int .i64 x7_2] (fun k_ => k_ ≠ gb141) (fun _ => False) rfl rfl ?aP (fun _ hk => hk.elim) ?aF ?aO ?aB ?aS ?aL ?_; (case aP => exact kd_impl_Peg_mkM _ _ _ (⟨x6_1, x7_2⟩ : S_impl_Peg)); (case aB => exact bE); (case aF => exact (fun k_ hk => Kd.freshB (g := gb141) (o := .cells #[.int .i64 x6_1, .int .i64 x7_2] 54 (0, 0)) (gQ BK141) k_ hk)); (case aO => exact (by (with_reducible repeat (first | apply rA | apply rN | apply rD)); exact HO_5.out)); (case aS => exact (pZ bE)); (case aL => have := LMc21.out; omega); intro v146 w23 ho hb hg hat; rw [← Ny145.out] at ho; have n0_ := aM (blk_grown (g := gb141) (o := .cells #[.int .i64 x6_1, .int .i64 x7_2] 54 (0, 0)) (gQ BK141) hg (Kd.R_away HO_5.out (fun _ hk => hk))); have n1_ := aM (hb); have n2_ := aM (ho); clear BK141; clear HB; clear HO_5; have BK141 := n0_; have HB := n1_; have HO147 := n2_; clear n0_ n1_ n2_; clear ho hb hg hat))
           go_roundg k3
           case measure => have := HK1.out; have := HK2.out; have := HK3.out; omega
           case rel => exact ⟨(y145), (wrap64 (x7_2 + 1)), eQ, H', ⟨by have := HK1.out; have := HK2.out; have := HK3.out; omega⟩, ⟨by (with_reducible repeat (first | apply rA | apply rN | apply rD)); exact Kd.R_mono HO147.out (fun _ hk => trivial)⟩, ⟨bE⟩⟩
          ·replace c20 := Bool.eq_false_iff.mpr c20; subst c20; replace H := iF H; have H' := aM H; clear H; go_wp2
           go_roundg k3
           case measure => have := HK1.out; have := HK2.out; have := HK3.out; omega
           case rel => exact ⟨(x5_2), (wrap64 (x7_2 + 1)), eQ, H', ⟨by have := HK1.out; have := HK2.out; have := HK3.out; omega⟩, ⟨by (with_reducible repeat (first | apply rA | apply rN | apply rD)); exact Kd.R_mono HO_5.out (fun _ hk => trivial)⟩, ⟨bE⟩⟩
      ·rw [if_neg c4] at H; have c4b0 := decide_eq_false c4; clear c4; have H' := aM H; clear H; go_wp2
       go_roundg k2
       case measure => have := HK1.out; have := HK2.out; omega
       case rel => exact ⟨(x5_2), (wrap64 (x6_1 + 1)), eQ, H', ⟨by have := HK1.out; have := HK2.out; omega⟩, ⟨by (with_reducible repeat (first | apply rA | apply rN | apply rD)); exact HO_5.out⟩, ⟨bQ⟩⟩
   ·rw [if_neg c3] at H; have c3b0 := decide_eq_false c3; clear c3; obtain rfl := Option.some.inj H; go_wp2
    go_ret
    exact ⟨_, by first | rfl | (simp [errW_none, errW_some] <;> rfl) | (simp [*, errW_none, errW_some] <;> rfl), by (with_reducible repeat (first | apply rA | apply rN | apply rD)); exact HO_5.out, bQ⟩

def spec_LeftByClues.l0 : Nat → List Int → Int → Int → List (S_impl_Clue) → Option (List Int × Bool)
 | 0, _, _, _, _ => none
 | k + 1, x4, x5, x149000, x149001 => if x5 ≤ (x149001.length : Int) then (if 0 ≤ x5 then ((spec_pzAll.f k x149000 (x149001.take (x5 : Int).toNat)).bind fun t154 => (if x4.length < 17592186044416 then (spec_LeftByClues.l0 k (x4 ++ [(t154.length : Int)]) (wrap64 (x5 + 1)) x149000 x149001) else (none))) else (none)) else (some (x4, true))
def spec_LeftByClues.f (k : Nat) (a0_0 : Int) (l0_1 : List (S_impl_Clue)) : Option (List Int × Bool) := (spec_pzGood.f k a0_0 l0_1).bind fun t149 => (if t149 = true then (spec_LeftByClues.l0 k ([] : List Int) 0 a0_0 l0_1) else (some (([] : List Int), false)))
theorem spec_LeftByClues.mono_l : ∀ k, (∀ y0 y1 y2 y3, LeO (spec_LeftByClues.l0 k y0 y1 y2 y3) (spec_LeftByClues.l0 (k + 1) y0 y1 y2 y3))
 | 0 => fun _ _ _ _ r h => by simp [spec_LeftByClues.l0] at h
 | k + 1 => by
  have ih0 := spec_LeftByClues.mono_l k
  ·intro y0 y1 y2 y3
   unfold spec_LeftByClues.l0
   repeat' first
   | (with_reducible exact ih0 _ _ _ _)
   | (with_reducible exact spec_pzAll.mono _ _ _)
   | (with_reducible exact spec_pzGood.mono _ _ _)
   | (with_reducible exact LeO.refl _)
   | (with_reducible exact LeO.none _)
   | (with_reducible refine LeO.ite ?_ ?_)
   | (with_reducible refine LeO.bind ?_ (fun _ => ?_))
   | exact ih0 _ _ _ _
   | exact spec_pzAll.mono _ _ _
   | exact spec_pzGood.mono _ _ _
   | exact LeO.none _
   | refine LeO.ite ?_ ?_
   | refine LeO.bind ?_ (fun _ => ?_)
theorem spec_LeftByClues.mono : ∀ a0 a1 k, LeO (spec_LeftByClues.f k a0 a1) (spec_LeftByClues.f (k + 1) a0 a1) := by
 intro a0 a1 k
 have ih0 := spec_LeftByClues.mono_l k
 unfold spec_LeftByClues.f
 repeat' first | (with_reducible exact ih0 _ _ _ _) | (with_reducible exact spec_pzAll.mono _ _ _) | (with_reducible exact spec_pzGood.mono _ _ _) | (with_reducible exact LeO.refl _) | (with_reducible exact LeO.none _) | (with_reducible refine LeO.ite ?_ ?_) | (with_reducible refine LeO.bind ?_ (fun _ => ?_)) | exact ih0 _ _ _ _ | exact spec_pzAll.mono _ _ _ | exact spec_pzGood.mono _ _ _ | exact LeO.none _ | refine LeO.ite ?_ ?_ | refine LeO.bind ?_ (fun _ => ?_)
def spec_LeftByClues.T7 : Bool × List (List Nat × List Nat) := (true, [([], []), ([], []), ([1], [1]), ([], []), ([3], [3]), ([], []), ([4, 5], [4, 5]), ([2, 6], [2, 6]), ([7], [7]), ([8], [8]), ([0, 9, 7], [0, 9]), ([10, 10, 0, 1, 2, 3, 4, 5, 6, 7, 8, 9, 10], [0, 10])])
def spec_LeftByClues.B7 : List Nat := [0, 0, 2, 0, 8, 0, 56, 126, 254, 510, 1023, 2047]
theorem spec_LeftByClues.tab7 : rtab .any (opsOf Try.f8 7) = spec_LeftByClues.T7 := by kernel_rfl
theorem spec_LeftByClues.bits7 : waitsOk spec_LeftByClues.T7.2 spec_LeftByClues.B7 = true := by kernel_rfl
set_option maxHeartbeats 8000000 in
set_option maxRecDepth 100000 in
theorem spec_LeftByClues.calls (k : Nat) (a0_0 : Int) (A0_1 : Option Addr) (c0_1 : Nat) (l0_1 : List (S_impl_Clue)) (r1 : List Int) (r2 : Bool) (w : World) (hr0_1 : Kd.C kd_impl_Clue w A0_1 l0_1.length l0_1) (hc0_1 : l0_1.length ≤ c0_1) (h : spec_LeftByClues.f k a0_0 l0_1 = some (r1, r2)) :
  Calls Try.prog 8 #[.agg #[.int .i64 a0_0, .slice A0_1 l0_1.length c0_1]] w fun e w' => ∃ v0_ : Value, e = .returned (.tuple #[v0_, .bool r2]) ∧ Kd.R (Kd.int .i64) 3 w' w.heap.size (fun _ => True) v0_ r1 ∧ Below w.heap.size w w' := by
 have hu31 := Try.underlying31; have HR0_1 := aM hr0_1; have HC0_1 := aM hc0_1; clear hr0_1 hc0_1; have HB := aM (Below.refl w.heap.size w)
 unfold spec_LeftByClues.f at h; have H := h; clear h
 replace H := bS H; obtain ⟨t149, A2, H⟩ := H
 by_cases c3 : t149 = true
 ·subst c3; replace H := iT H; have H' := aM H; clear H
  go_enter Try.func8, Try.ntmps8
  go_wp2_with (first | ((with_reducible refine gate_dst (N := 1) rfl ?_); refine bV 1 (cs := #[.int .i64 a0_0, .slice A0_1 l0_1.length c0_1]) (t := 31) rfl rfl (by first | (go_simp; done) | (go_simp; rfl)) ?_; intro gb148 hg w4 hbox hb; have BK148 := hbox; have GW148 := gZ HB hg; have GE148 := gZ HB hg; replace HB := tB HB hb; clear hb hbox hg; have hcz5_0 := vZ0 BK148; have hcz5_1 := vZ1 BK148; have hfz5_0 := kF BK148.out 0; have hfz5_1 := kF BK148.out 1) | ((with_reducible refine gC (f := 27) rfl ?_); refine goesL_ (some 7) rfl rfl Try.func27 kR rfl #[.agg #[.int .i64 a0_0, .slice A0_1 l0_1.length c0_1]] rfl sQ ?_; (with_reducible refine (spec_pzGood.calls k a0_0 _ _ l0_1 true _ ?side1 ?side2 A2.out).mono ?_); (case side1 => repeat (first | exact (Kd.C_below HR0_1.out HB.out) | (with_reducible refine cA ?_ _) | (with_reducible refine cN ?_ _) | (with_reducible refine cD ?_))); (case side2 => exact HC0_1.out); rintro e w6 ⟨rfl, hb⟩; refine ⟨_, rfl, ?_⟩; replace BK148 := bB BK148 hb; replace HB := tB HB hb; (try clear hb); (try clear hb2); (try clear hk); (try clear hi)))
  go_loopg [4, 5] k (fun kq v4 v5 w' => ∃ (x4_1 : List Int) (x5_1 : Int), v5 = .int .i64 x5_1 ∧ Aside0 (spec_LeftByClues.l0 kq x4_1 x5_1 a0_0 l0_1 = some (r1, r2)) ∧ Aside0 (kq ≤ k) ∧ Aside0 (Kd.R (Kd.int .i64) 3 w' w.heap.size (fun _ => True) v4 x4_1) ∧ Aside0 (w'.heap[gb148]? = some (.cells #[.int .i64 a0_0, (.slice A0_1 l0_1.length c0_1)] 31 (0, 0))) ∧ Aside0 (Below w.heap.size w w'))
  case atStart => exact ⟨(([] : List Int)), (0), eQ, H', ⟨Nat.le_refl _⟩, ⟨by first | exact Kd.R_nil _ _ _ _ _ | exact Kd.N_nil _ _ _ _ _ | exact Kd.V_nil _ _ _ _ _ | exact Kd.Q_nil _ _ _ _ _ | exact Kd.S_nil _ _ _ _ _⟩, ⟨gQ BK148⟩, ⟨bE⟩⟩
  case round =>
   clear H'; (try clear c3); (try clear hcz5_0); (try clear hcz5_1); (try clear hfz5_0); (try clear hfz5_1); obtain ⟨x4_1, x5_1, rfl, HA, HK1, HO_4, BK148, HB⟩ := hrel
   cases gk with
   | zero => exact absurd HA.out (by simp [spec_LeftByClues.l0])
   | succ k1 =>
    have H := HA.out; clear HA
    simp only [spec_LeftByClues.l0] at H
    by_cases c7 : x5_1 ≤ (l0_1.length : Int)
    ·rw [if_pos c7] at H; have c7b0 := dE c7; clear c7; replace H := iN H; obtain ⟨c8, H⟩ := H; have c8b0 := eq_true c8; have c8b1 := dE c8; clear c8; have c9b0 := eq_true (dT aQ : x5_1 ≤ (l0_1.length : Int)); obtain ⟨y150, hy150⟩ : ∃ y_ : List (S_impl_Clue), y_ = (l0_1.take (x5_1 : Int).toNat) := ⟨_, rfl⟩; rw [← hy150] at H; have Ny150 := aM hy150; clear hy150; replace H := bS H; obtain ⟨t154, A10, H⟩ := H; replace H := iN H; obtain ⟨c11, H⟩ := H; have LMc11 := aM c11; clear c11; obtain ⟨y157, hy157⟩ : ∃ y_ : List Int, y_ = (x4_1 ++ [(t154.length : Int)]) := ⟨_, rfl⟩; rw [← hy157] at H; have Ny157 := aM hy157; clear hy157; have H' := aM H; clear H; have hcz12_0 : wr.cell? ⟨gb148, 0, none⟩ = some (.int .i64 a0_0) := vZ0 BK148; have hcz12_1 : wr.cell? ⟨gb148, 1, none⟩ = some (.slice A0_1 l0_1.length c0_1) := vZ1 BK148; have hfz12_0 := kF BK148.out 0; have hfz12_1 := kF BK148.out 1
     try go_wp2
     replace HO_4 := aM (rD HO_4.out); replace BK148 := aM (kD BK148.out); replace HB := aM (pD HB.out); have q14 : (x5_1 : Int) ≤ ((l0_1.length : Int) : Int) := dT aQ; obtain ⟨i014, hi014, _, hsz14, _⟩ := info_parts info61; have hroom14 : l0_1.length ≤ c0_1 := HC0_1.out; have hC14 : Kd.C kd_impl_Clue _ A0_1 l0_1.length l0_1 := HR0_1.out; have hcut14 := cut_to (P := Try.prog) 29 61 .i64 Try.underlying29 hi014 A0_1 l0_1.length c0_1 x5_1 (dT aQ) q14 hroom14; have hr14 := Kd.C_take (m := (x5_1 : Int).toNat) hC14 (by omega)
     have hy14 : y150.length = (x5_1 : Int).toNat := (by rw [Ny150.out, lT]; omega)
     rw [← Ny150.out] at hr14; rw [← hy14] at hcut14; have HR153 := aM hr14; have HC153 := aM (show y150.length ≤ c0_1 from by omega)
     clear hr14 hC14 hroom14 hi014 hsz14; have KY14 := aM hy14; clear hy14; replace q14 := eq_true q14
     refine start_ (n := 12) (S := fun w' => w'.cell? ⟨gb148, 0, none⟩ = some (.int .i64 a0_0) ∧ w'.cell? ⟨gb148, 1, none⟩ = some (.slice A0_1 l0_1.length c0_1)) (ds := []) (bA 12 0) kR rfl kR ⟨vZ0 BK148, vZ1 BK148⟩ (fun hHeld => ?_); refine with_tabW spec_LeftByClues.tab7 spec_LeftByClues.bits7 (fun HT_ HW_ => ?_)
     generalize wr.drew = w13 at HO_4 BK148 HB HR153 hHeld ⊢
     refine pU 0 16 (bA 12 1) HT_ ?_; refine pU 1 17 (bA 12 3) HT_ ?_; refine pU 3 19 (bA 12 11) HT_ ?_; refine pU 5 21 (bA 12 43) HT_ ?_
     refine tU 2 18 (bA 12 47) HT_ HW_ hHeld ?_ (hy := Or.inl ⟨by rfl, by rintro w' ⟨s0, s1⟩; go_simp; with_reducible rfl⟩)
     refine tU 4 20 (bA 12 63) HT_ HW_ hHeld ?_ (hy := Or.inl ⟨by rfl, by rintro w' ⟨s0, s1⟩; go_simp; with_reducible rfl⟩)
     refine pU 6 22 (bA 12 127) HT_ ?_
     refine oU 7 23 (bA 12 255) HT_ (fun K hK => ?_)
     refine goes_ Try.func28 kR rfl #[.int .i64 a0_0, .slice A0_1 y150.length c0_1] (by rfl) rfl rfl sQ ?_
     with_reducible refine (spec_pzAll.calls k1 a0_0 _ _ y150 t154 _ ?side1 ?side2 A10.out).mono ?_
     (case side1 => repeat (first | exact (Kd.C_below HR153.out HB.out) | (with_reducible refine cA ?_ _) | (with_reducible refine cN ?_ _) | (with_reducible refine cD ?_)))
     (case side2 => exact HC153.out)
     rintro e w15 ⟨v155, rfl, ho0, hb⟩; refine ⟨_, rfl, ?_⟩; have HO156 := aM (Kd.R_lower ho0 (pZ bE)); replace HO_4 := aM (Kd.R_below (by (with_reducible repeat (first | apply rA | apply rN | apply rD)); exact HO_4.out) hb); replace BK148 := bB BK148 hb; replace HB := tB HB hb
     (try clear hb); (try clear hb2); (try clear hk); (try clear hi); (try clear ho0); obtain ⟨Ao16, co16, eo16⟩ := Kd.R_slice HO156.out
     (first | subst eo16 | (injection eo16 with f1_ f2_ f3_; have f4_ := f1_.symm; have f5_ := f3_.symm; clear f1_ f2_ f3_; subst f4_; subst f5_))
     refine hK.out _ _ ⟨vZ0 BK148, vZ1 BK148⟩ (fun hHeld => ?_)
     clear hK K
     refine nU ?_
     refine pU 8 24 (bA 12 511) HT_ ?_
     refine oU 9 25 (bA 12 1023) HT_ (fun K hK => ?_)
     refine value_ (w1 := ?_) (v := ?_) (by rfl) rfl ?_ ?_
     rotate_left 2
     ·go_simp
      constructor
      ·rfl
      ·rfl
     refine hK.out _ _ ⟨(kC (kA BK148.out _) 0).trans rfl, (kC (kA BK148.out _) 1).trans rfl⟩ (fun hHeld => ?_)
     clear hK K
     refine nU ?_
     refine oU 10 26 (bA 12 2047) HT_ (fun K hK => ?_)
     refine Kd.R_append_step (Kd.int .i64) (w0 := w) w.heap.size (by rfl) (.tmp 16) (.tmp 25) 26 3 (.int .i64 0) 8 rfl Try.underlying26 info3 rfl (by decide) (by omega) u4 x4_1 (t154.length : Int) [.int .i64 (t154.length : Int)] (fun _ => True) (fun _ => False) rfl rfl ?aP (fun _ hk => hk.elim) ?aF ?aO ?aB ?aS ?aL ?_
     (case aP => exact rfl)
     (case aB => exact bE)
     (case aF => exact (fun _ _ => trivial))
     (case aO => exact (by (with_reducible repeat (first | apply rA | apply rN | apply rD)); exact HO_4.out))
     (case aS => exact (pZ bE))
     (case aL => have := LMc11.out; omega)
     intro v158 w17 ho hb hg hat
     rw [← Ny157.out] at ho; have n0_ := aM (blk_grown (g := gb148) (o := .cells #[.int .i64 a0_0, .slice A0_1 l0_1.length c0_1] 31 (0, 0)) (gQ BK148) hg (Kd.R_ne HO_4.out BK148.out (by decide)))
     have n1_ := aM (Kd.R_over' (by (with_reducible repeat (first | apply rA | apply rN | apply rD)); exact HO156.out) (Kd.R_typed (by (with_reducible repeat (first | apply rA | apply rN | apply rD)); exact HO_4.out)) (by decide) hg)
     have n2_ := aM (hb); have n3_ := aM (ho); clear BK148; clear HO156; clear HB; clear HO_4; have BK148 := n0_; have HO156 := n1_; have HB := n2_; have HO159 := n3_; clear n0_ n1_ n2_ n3_; clear ho hb hg hat
     refine hK.out _ _ ⟨vZ0 BK148, vZ1 BK148⟩ (fun hHeld => ?_)
     clear hK K
     refine nU ?_
     refine pU 11 4 (bA 12 4095) HT_ ?_
     refine done_ (done_of HT_.out kR) ?_
     try go_wp2
     go_roundg k1
     case measure => have := HK1.out; omega
     case rel => exact ⟨(y157), (wrap64 (x5_1 + 1)), eQ, H', ⟨by have := HK1.out; omega⟩, ⟨by (with_reducible repeat (first | apply rA | apply rN | apply rD)); exact HO159.out⟩, ⟨gQ BK148⟩, ⟨bE⟩⟩
    ·rw [if_neg c7] at H; have c7b0 := decide_eq_false c7; clear c7
     simp only [Option.some.injEq, Prod.mk.injEq] at H
     obtain ⟨rfl, rfl⟩ := H; have hcz18_0 : wr.cell? ⟨gb148, 0, none⟩ = some (.int .i64 a0_0) := vZ0 BK148; have hcz18_1 : wr.cell? ⟨gb148, 1, none⟩ = some (.slice A0_1 l0_1.length c0_1) := vZ1 BK148; have hfz18_0 := kF BK148.out 0; have hfz18_1 := kF BK148.out 1; go_wp2
     go_ret2
     exact ⟨_, by first | rfl | (simp [errW_none, errW_some] <;> rfl) | (simp [*, errW_none, errW_some] <;> rfl), by (with_reducible repeat (first | apply rA | apply rN | apply rD)); exact HO_4.out, bE⟩
 ·replace c3 := Bool.eq_false_iff.mpr c3; subst c3; replace H := iF H
  simp only [Option.some.injEq, Prod.mk.injEq] at H
  obtain ⟨rfl, rfl⟩ := H
  go_enter Try.func8, Try.ntmps8
  go_wp2_with (first | ((with_reducible refine gate_dst (N := 1) rfl ?_); refine bV 1 (cs := #[.int .i64 a0_0, .slice A0_1 l0_1.length c0_1]) (t := 31) rfl rfl (by first | (go_simp; done) | (go_simp; rfl)) ?_; intro gb148 hg w19 hbox hb; have BK148 := hbox; have GW148 := gZ HB hg; have GE148 := gZ HB hg; replace HB := tB HB hb; clear hb hbox hg; have hcz20_0 := vZ0 BK148; have hcz20_1 := vZ1 BK148; have hfz20_0 := kF BK148.out 0; have hfz20_1 := kF BK148.out 1) | ((with_reducible refine gC (f := 27) rfl ?_); refine goesL_ (some 7) rfl rfl Try.func27 kR rfl #[.agg #[.int .i64 a0_0, .slice A0_1 l0_1.length c0_1]] rfl sQ ?_; (with_reducible refine (spec_pzGood.calls k a0_0 _ _ l0_1 false _ ?side1 ?side2 A2.out).mono ?_); (case side1 => repeat (first | exact (Kd.C_below HR0_1.out HB.out) | (with_reducible refine cA ?_ _) | (with_reducible refine cN ?_ _) | (with_reducible refine cD ?_))); (case side2 => exact HC0_1.out); rintro e w21 ⟨rfl, hb⟩; refine ⟨_, rfl, ?_⟩; replace BK148 := bB BK148 hb; replace HB := tB HB hb; (try clear hb); (try clear hb2); (try clear hk); (try clear hi)))
  go_ret2
  exact ⟨_, by first | rfl | (simp [errW_none, errW_some] <;> rfl) | (simp [*, errW_none, errW_some] <;> rfl), by first | exact Kd.R_nil _ _ _ _ _ | exact Kd.N_nil _ _ _ _ _ | exact Kd.V_nil _ _ _ _ _ | exact Kd.Q_nil _ _ _ _ _ | exact Kd.S_nil _ _ _ _ _, bE⟩

def laws_toClue.f (a0_0 : Int) (a0_1 : Int) (a0_2 : Int) (a0_3 : Int) : Option (Int × Int × Int × Int) := some (a0_0, a0_1, a0_2, a0_3)
set_option maxHeartbeats 8000000 in
set_option maxRecDepth 100000 in
theorem laws_toClue.calls (a0_0 : Int) (a0_1 : Int) (a0_2 : Int) (a0_3 : Int) (r1 : Int) (r2 : Int) (r3 : Int) (r4 : Int) (w : World) (h : laws_toClue.f a0_0 a0_1 a0_2 a0_3 = some (r1, r2, r3, r4)) :
  Calls Try.prog 45 #[.agg #[.int .i64 a0_0, .int .i64 a0_1, .int .i64 a0_2, .int .i64 a0_3]] w fun e w' => e = .returned (.agg #[.int .i64 r1, .int .i64 r2, .int .i64 r3, .int .i64 r4]) ∧ Below w.heap.size w w' := by
 have hu66 := Try.underlying66; have hu61 := Try.underlying61; have HB := aM (Below.refl w.heap.size w)
 unfold laws_toClue.f at h; have H := h; clear h
 simp only [Option.some.injEq, Prod.mk.injEq] at H
 obtain ⟨rfl, rfl, rfl, rfl⟩ := H
 go_enter Try.func45, Try.ntmps45
 go_wp2_with (first | ((with_reducible refine gate_dst (N := 1) rfl ?_); refine bV 1 (cs := #[.int .i64 a0_0, .int .i64 a0_1, .int .i64 a0_2, .int .i64 a0_3]) (t := 66) rfl rfl (by first | (go_simp; done) | (go_simp; rfl)) ?_; intro gb160 hg w2 hbox hb; have BK160 := hbox; have GW160 := gZ HB hg; have GE160 := gZ HB hg; replace HB := tB HB hb; clear hb hbox hg) | ((with_reducible refine gate_dst (N := 2) rfl ?_); refine bV 2 (cs := #[.int .i64 0, .int .i64 0, .int .i64 0, .int .i64 0]) (t := 61) rfl rfl (by first | (go_simp; done) | (go_simp; rfl)) ?_; intro gb161 hg w3 hbox hb; have BK161 := hbox; have GW161 := gZ HB hg; have GE161 := gZ HB hg; have NB160_161 := nG BK160 hg; have NB161_160 := nH BK160 hg; replace BK160 := bB BK160 hb; replace HB := tB HB hb; clear hb hbox hg) | ((with_reducible refine gate_dst (N := 3) rfl ?_); refine bV 3 (cs := #[.int .i64 0, .int .i64 0, .int .i64 0, .int .i64 0]) (t := 61) rfl rfl (by first | (go_simp; done) | (go_simp; rfl)) ?_; intro gb162 hg w4 hbox hb; have BK162 := hbox; have GW162 := gZ HB hg; have GE162 := gZ HB hg; have NB160_162 := nG BK160 hg; have NB162_160 := nH BK160 hg; have NB161_162 := nG BK161 hg; have NB162_161 := nH BK161 hg; replace BK160 := bB BK160 hb; replace BK161 := bB BK161 hb; replace HB := tB HB hb; clear hb hbox hg; have hnb5 := NB160_161.out; have hnc5 := NB161_160.out; have hnb6 := NB160_162.out; have hnc6 := NB162_160.out; have hcz7_0 := vZ0 BK160; have hcz7_1 := vZ1 BK160; have hcz7_2 := vZ2 BK160; have hcz7_3 := vZ3 BK160; have hfz7_0 := kF BK160.out 0; have hfz7_1 := kF BK160.out 1; have hfz7_2 := kF BK160.out 2; have hfz7_3 := kF BK160.out 3; have hnb8 := NB162_161.out; have hnc8 := NB161_162.out; have hcz9_0 := vZ0 BK162; have hcz9_1 := vZ1 BK162; have hcz9_2 := vZ2 BK162; have hcz9_3 := vZ3 BK162; have hfz9_0 := kF BK162.out 0; have hfz9_1 := kF BK162.out 1; have hfz9_2 := kF BK162.out 2; have hfz9_3 := kF BK162.out 3; have hcz10_0 := vZ0 BK161; have hcz10_1 := vZ1 BK161; have hcz10_2 := vZ2 BK161; have hcz10_3 := vZ3 BK161; have hfz10_0 := kF BK161.out 0; have hfz10_1 := kF BK161.out 1; have hfz10_2 := kF BK161.out 2; have hfz10_3 := kF BK161.out 3))
 refine bodyPost_ret (results_cell_row rfl _ _ gb161 61 #[.int .i64 a0_0, .int .i64 a0_1, .int .i64 a0_2, .int .i64 a0_3] (0, 0) _ rfl (fQ BK161) Try.underlying61 rfl kR) rfl ?_
 exact ⟨wQ, bE⟩

end Go.Proofs.Ytajfdfaembcodaa.X
