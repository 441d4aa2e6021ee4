-- thin
-- short
-- compact
import Derived.Test.YtoeclfihlhmnpaaXA
import Derived.Test.YtoeclfihlhmnpaaX0
import Derived.Test.YtoeclfihlhmnpaaX3
namespace Go.Proofs.Ytoeclfihlhmnpaa.X
open Go.RowKit Go.Proofs.Ytoeclfihlhmnpaa.XW Go.Proofs.YtoeclfihlhmnpaaW.PrintWords Go.Proofs.YtoeclfihlhmnpaaW.PrintLast Go.Proofs.YtoeclfihlhmnpaaW.PrintMore
attribute [local go_sem] max2_int min2_int max_two min_two max_three min_three max_four min_four   -- for this text's walks alone
set_option linter.unusedVariables false
set_option linter.unusedSimpArgs false

mutual
def spec_pzAll.l0 : Nat → Int → List (S_impl_Clue) → List (S_impl_Peg) → Int → Option ((List (S_impl_Peg)))
 | 0, _, _, _, _ => none
 | k + 1, x0, x1, x5, x6 => if x6 ≤ x0 then (spec_pzAll.l1 k x0 x1 x5 x6 0) else (some x5)
def spec_pzAll.l1 : Nat → Int → List (S_impl_Clue) → List (S_impl_Peg) → Int → Int → Option ((List (S_impl_Peg)))
 | 0, _, _, _, _, _ => none
 | k + 1, x0, x1, x5, x6, x7 => if x7 ≤ x0 then (spec_pzAll.l2 k x0 x1 x5 x6 x7 true x1 (x1.length : Int) 0 x6 x7) else (spec_pzAll.l0 k x0 x1 x5 (wrap64 (x6 + 1)))
def spec_pzAll.l2 : Nat → Int → List (S_impl_Clue) → List (S_impl_Peg) → Int → Int → Bool → List (S_impl_Clue) → Int → Int → Int → Int → Option ((List (S_impl_Peg)))
 | 0, _, _, _, _, _, _, _, _, _, _, _ => none
 | k + 1, x0, x1, x5, x6, x7, x9, x25, x26, x27, x142000, x142001 => if x27 < x26 then (if 0 ≤ x27 then (if x27 < (x25.length : Int) then (if x9 = true then ((spec_pzFits.f k ((rd_impl_Clue x25 x27).f0) ((rd_impl_Clue x25 x27).f1) ((rd_impl_Clue x25 x27).f2) ((rd_impl_Clue x25 x27).f3) x142000 x142001).bind fun t144 => (spec_pzAll.l2 k x0 x1 x5 x6 x7 t144 x25 x26 (wrap64 (x27 + 1)) x142000 x142001)) else (spec_pzAll.l2 k x0 x1 x5 x6 x7 false x25 x26 (wrap64 (x27 + 1)) x142000 x142001)) else (none)) else (none)) else (if x9 = true then (if x5.length < 8796093022208 then (spec_pzAll.l1 k x0 x1 (x5 ++ [(⟨x142000, x142001⟩ : S_impl_Peg)]) x6 (wrap64 (x7 + 1))) else (none)) else (spec_pzAll.l1 k x0 x1 x5 x6 (wrap64 (x7 + 1))))
end
def spec_pzAll.f (k : Nat) (a0 : Int) (l1 : List (S_impl_Clue)) : Option ((List (S_impl_Peg))) := spec_pzAll.l0 k a0 l1 ([] : List (S_impl_Peg)) 0
theorem spec_pzAll.mono_l : ∀ k, (∀ y0 y1 y2 y3, LeO (spec_pzAll.l0 k y0 y1 y2 y3) (spec_pzAll.l0 (k + 1) y0 y1 y2 y3)) ∧ (∀ y0 y1 y2 y3 y4, LeO (spec_pzAll.l1 k y0 y1 y2 y3 y4) (spec_pzAll.l1 (k + 1) y0 y1 y2 y3 y4)) ∧ (∀ y0 y1 y2 y3 y4 y5 y6 y7 y8 y9 y10, LeO (spec_pzAll.l2 k y0 y1 y2 y3 y4 y5 y6 y7 y8 y9 y10) (spec_pzAll.l2 (k + 1) y0 y1 y2 y3 y4 y5 y6 y7 y8 y9 y10))
 | 0 => ⟨fun _ _ _ _ r h => by simp [spec_pzAll.l0] at h, fun _ _ _ _ _ r h => by simp [spec_pzAll.l1] at h, fun _ _ _ _ _ _ _ _ _ _ _ r h => by simp [spec_pzAll.l2] at h⟩
 | k + 1 => by
  obtain ⟨ih0, ih1, ih2⟩ := spec_pzAll.mono_l k
  refine ⟨?_, ?_, ?_⟩ <;> intros <;> (first | unfold spec_pzAll.l0 | unfold spec_pzAll.l1 | unfold spec_pzAll.l2) <;> repeat' first | (with_reducible exact ih0 _ _ _ _) | (with_reducible exact ih1 _ _ _ _ _) | (with_reducible exact ih2 _ _ _ _ _ _ _ _ _ _ _) | (with_reducible exact spec_pzFits.mono _ _ _ _ _ _ _) | (with_reducible exact LeO.refl _) | (with_reducible exact LeO.none _) | (with_reducible refine LeO.ite ?_ ?_) | (with_reducible refine LeO.bind ?_ (fun _ => ?_)) | exact ih0 _ _ _ _ | exact ih1 _ _ _ _ _ | exact ih2 _ _ _ _ _ _ _ _ _ _ _ | exact spec_pzFits.mono _ _ _ _ _ _ _ | exact LeO.none _ | refine LeO.ite ?_ ?_ | refine LeO.bind ?_ (fun _ => ?_)
theorem spec_pzAll.mono : ∀ a0 a1 k, LeO (spec_pzAll.f k a0 a1) (spec_pzAll.f (k + 1) a0 a1) := by
 intro a0 a1 k
 obtain ⟨ih0, ih1, ih2⟩ := spec_pzAll.mono_l k
 unfold spec_pzAll.f
 repeat' first | (with_reducible exact ih0 _ _ _ _) | (with_reducible exact ih1 _ _ _ _ _) | (with_reducible exact ih2 _ _ _ _ _ _ _ _ _ _ _) | (with_reducible exact spec_pzFits.mono _ _ _ _ _ _ _) | (with_reducible exact LeO.refl _) | (with_reducible exact LeO.none _) | (with_reducible refine LeO.ite ?_ ?_) | (with_reducible refine LeO.bind ?_ (fun _ => ?_)) | exact ih0 _ _ _ _ | exact ih1 _ _ _ _ _ | exact ih2 _ _ _ _ _ _ _ _ _ _ _ | exact spec_pzFits.mono _ _ _ _ _ _ _ | exact LeO.none _ | refine LeO.ite ?_ ?_ | refine LeO.bind ?_ (fun _ => ?_)
set_option maxHeartbeats 8000000 in
set_option maxRecDepth 100000 in
theorem spec_pzAll.calls (k : Nat) (a0 : Int) (A1 : Option Addr) (c1 : Nat) (l1 : List (S_impl_Clue)) (r : List (S_impl_Peg)) (w : World) (hr1 : Kd.C kd_impl_Clue w A1 l1.length l1) (hc1 : l1.length ≤ c1) (h : spec_pzAll.f k a0 l1 = some r) :
  Calls Try.prog 42 #[.int .i64 a0, .slice A1 l1.length c1] w fun e w' => ∃ v0_ : Value, e = .returned (v0_) ∧ Kd.R kd_impl_Peg 41 w' w.heap.size (fun _ => True) v0_ r ∧ Below w.heap.size w w' := by
 have hu41 := Try.underlying41; have hu48 := Try.underlying48; have HR1 := aM hr1; have HC1 := aM hc1; clear hr1 hc1; have HB := aM (Below.refl w.heap.size w)
 unfold spec_pzAll.f at h; have H := h; clear h
 have H' := aM H; clear H
 go_enter Try.func42, Try.ntmps42
 go_wp2
 go_loopg [5, 6] k (fun kq v5 v6 w' => ∃ (x5_1 : List (S_impl_Peg)) (x6_1 : Int), v6 = .int .i64 x6_1 ∧ Aside0 (spec_pzAll.l0 kq a0 l1 x5_1 x6_1 = some r) ∧ Aside0 (kq ≤ k) ∧ Aside0 (Kd.R kd_impl_Peg 41 w' w.heap.size (fun _ => True) v5 x5_1) ∧ Aside0 (Below w.heap.size w w'))
 case atStart => exact ⟨(([] : List (S_impl_Peg))), (0), eQ, H', ⟨Nat.le_refl _⟩, ⟨by first | exact Kd.R_nil _ _ _ _ _ | exact Kd.N_nil _ _ _ _ _ | exact Kd.V_nil _ _ _ _ _ | exact Kd.Q_nil _ _ _ _ _ | exact Kd.S_nil _ _ _ _ _⟩, ⟨bQ⟩⟩
 case round =>
  clear H'; (try clear c1); obtain ⟨x5_1, x6_1, rfl, HA, HK1, HO_5, HB⟩ := hrel
  cases gk with
  | zero => exact absurd HA.out (by simp [spec_pzAll.l0])
  | succ k1 =>
   have H := HA.out; clear HA
   simp only [spec_pzAll.l0] at H
   by_cases c3 : x6_1 ≤ a0
   ·rw [if_pos c3] at H; have c3b0 := dE c3; clear c3; have H' := aM H; clear H; go_wp2
    go_loopg [5, 7] k1 (fun kq v5 v7 w' => ∃ (x5_2 : List (S_impl_Peg)) (x7_2 : Int), v7 = .int .i64 x7_2 ∧ Aside0 (spec_pzAll.l1 kq a0 l1 x5_2 x6_1 x7_2 = some r) ∧ Aside0 (kq ≤ k1) ∧ Aside0 (Kd.R kd_impl_Peg 41 w' w.heap.size (fun _ => True) v5 x5_2) ∧ Aside0 (Below w.heap.size w w'))
    case atStart => exact ⟨(x5_1), (0), eQ, H', ⟨Nat.le_refl _⟩, ⟨by (with_reducible repeat (first | apply rA | apply rN | apply rD)); exact HO_5.out⟩, ⟨bQ⟩⟩
    case round =>
     clear H'; (try clear c1); (try clear c3); (try clear c3b0); obtain ⟨x5_2, x7_2, rfl, HA, HK2, HO_5, HB⟩ := hrel
     cases gk with
     | zero => exact absurd HA.out (by simp [spec_pzAll.l1])
     | succ k2 =>
      have H := HA.out; clear HA
      simp only [spec_pzAll.l1] at H
      by_cases c4 : x7_2 ≤ a0
      ·rw [if_pos c4] at H; have c4b0 := dE c4; clear c4; have H' := aM H; clear H
       go_wp2_with (first | ((with_reducible refine gate_dst (N := 8) rfl ?_); refine bV 8 (cs := #[.int .i64 0, .int .i64 0]) (t := 41) rfl rfl (by first | (go_simp; done) | (go_simp; rfl)) ?_; intro gb141 hg w5 hbox hb; have BK141 := hbox; have GW141 := gZ HB hg; have GE141 := gZ HB hg; replace HO_5 := aM (Kd.R_below (Kd.R_elderB (by (with_reducible repeat (first | apply rA | apply rN | apply rD)); exact HO_5.out) gb141 (Nat.le_of_eq hg.symm)) hb); replace HB := tB HB hb; clear hb hbox hg; have hcz6_0 := vZ0 BK141; have hcz6_1 := vZ1 BK141; have hfz6_0 := kF BK141.out 0; have hfz6_1 := kF BK141.out 1))
       go_loopg [9, 27] k2 (fun kq v9 v27 w' => ∃ (x9_3 : Bool) (x27_3 : Int), v9 = .bool x9_3 ∧ v27 = .int .i64 x27_3 ∧ Aside0 (spec_pzAll.l2 kq a0 l1 x5_2 x6_1 x7_2 x9_3 l1 (l1.length : Int) x27_3 x6_1 x7_2 = some r) ∧ Aside0 (kq ≤ k2) ∧ Aside0 (Kd.R kd_impl_Peg 41 w' w.heap.size (fun k_ => k_ ≠ gb141) u5 x5_2) ∧ Aside0 (w'.heap[gb141]? = some (.cells #[.int .i64 x6_1, .int .i64 x7_2] 41 (0, 0))) ∧ Aside0 (Below w.heap.size w w'))
       case atStart => exact ⟨(true), (0), eQ, eQ, H', ⟨Nat.le_refl _⟩, ⟨by (with_reducible repeat (first | apply rA | apply rN | apply rD)); exact Kd.R_mono (Kd.R_far (p := ⟨gb141, 1, none⟩) (Kd.R_far (p := ⟨gb141, 0, none⟩) (Kd.R_mono HO_5.out (fun k_ hk => (⟨hk, hk.2⟩ : _ ∧ k_ ≠ gb141))) (fun _ hk => hk.2) (.int .i64 x6_1)) (fun _ hk => hk.2) (.int .i64 x7_2)) (fun _ hk => hk.1.2)⟩, ⟨fQ BK141⟩, ⟨bE⟩⟩
       case round =>
        clear H'; (try clear c1); (try clear c3); (try clear c3b0); (try clear c4); (try clear c4b0); (try clear hcz6_0); (try clear hcz6_1); (try clear hfz6_0); (try clear hfz6_1); obtain ⟨x9_3, x27_3, rfl, rfl, HA, HK3, HO_5, BK141, HB⟩ := hrel
        cases gk with
        | zero => exact absurd HA.out (by simp [spec_pzAll.l2])
        | succ k3 =>
         have H := HA.out; clear HA
         simp only [spec_pzAll.l2] at H
         by_cases c7 : x27_3 < (l1.length : Int)
         ·rw [if_pos c7] at H; have c7b0 := dE c7; clear c7; replace H := iD H; obtain ⟨c8b0, H⟩ := H; replace H := iD H; obtain ⟨c9b0, H⟩ := H
          by_cases c10 : x9_3 = true
          ·subst c10; replace H := iT H; replace H := bS H; obtain ⟨t144, A11, H⟩ := H; have H' := aM H; clear H; have p142 : 0 ≤ (x27_3 : Int) := dT aQ; have q142 : x27_3 < (l1.length : Int) := dT aQ; obtain ⟨ad142, e142, hx142_0, hx142_1, hx142_2, hx142_3⟩ := at_impl_Clue HR1.out x27_3 p142 q142
           cases e142
           replace hx142_0 := hC HB hx142_0; replace hx142_1 := hC HB hx142_1; replace hx142_2 := hC HB hx142_2; replace hx142_3 := hC HB hx142_3; replace p142 := eq_true p142; replace q142 := eq_true q142
           go_wp2_with (first | ((with_reducible refine gate_dst (N := 11) rfl ?_); refine bV 11 (cs := #[.int .i64 0, .int .i64 0, .int .i64 0, .int .i64 0]) (t := 48) rfl rfl (by first | (go_simp; done) | (go_simp; rfl)) ?_; intro gb143 hg w12 hbox hb; have BK143 := hbox; have GW143 := gZ HB hg; have GE143 := gZ HB hg; have NB141_143 := nG BK141 hg; have NB143_141 := nH BK141 hg; replace HO_5 := aM (Kd.R_below (by (with_reducible repeat (first | apply rA | apply rN | apply rD)); exact HO_5.out) hb); replace BK141 := bB BK141 hb; replace HB := tB HB hb; clear hb hbox hg; have hnb13 := NB143_141.out; have hnc13 := NB141_143.out; have hcz14_0 := vZ0 BK143; have hcz14_1 := vZ1 BK143; have hcz14_2 := vZ2 BK143; have hcz14_3 := vZ3 BK143; have hfz14_0 := kF BK143.out 0; have hfz14_1 := kF BK143.out 1; have hfz14_2 := kF BK143.out 2; have hfz14_3 := kF BK143.out 3; have hcz15_0 := vZ0 BK141; have hcz15_1 := vZ1 BK141; have hfz15_0 := kF BK141.out 0; have hfz15_1 := kF BK141.out 1) | (go_at_call 76; (with_reducible refine (spec_pzFits.calls k3 ((rd_impl_Clue l1 x27_3).f0) ((rd_impl_Clue l1 x27_3).f1) ((rd_impl_Clue l1 x27_3).f2) ((rd_impl_Clue l1 x27_3).f3) x6_1 x7_2 t144 _ A11.out).mono ?_); rintro e w16 ⟨rfl, hb⟩; replace HO_5 := aM (Kd.R_below (by (with_reducible repeat (first | apply rA | apply rN | apply rD)); exact (Kd.R_mono (Kd.R_far (p := ⟨gb143, 3, none⟩) (Kd.R_far (p := ⟨gb143, 2, none⟩) (Kd.R_far (p := ⟨gb143, 1, none⟩) (Kd.R_far (p := ⟨gb143, 0, none⟩) (Kd.R_types HO_5.out BK143.out (by decide)) (fun _ hk => hk.2) (.int .i64 ((rd_impl_Clue l1 x27_3).f0))) (fun _ hk => hk.2) (.int .i64 ((rd_impl_Clue l1 x27_3).f1))) (fun _ hk => hk.2) (.int .i64 ((rd_impl_Clue l1 x27_3).f2))) (fun _ hk => hk.2) (.int .i64 ((rd_impl_Clue l1 x27_3).f3))) (fun _ h_ => h_.1))) hb); replace BK141 := aM (blk_below (g := gb141) (o := .cells #[.int .i64 x6_1, .int .i64 x7_2] 41 (0, 0)) (fQ BK141) hb); replace BK143 := aM (blk_below (g := gb143) (o := .cells #[.int .i64 ((rd_impl_Clue l1 x27_3).f0), .int .i64 ((rd_impl_Clue l1 x27_3).f1), .int .i64 ((rd_impl_Clue l1 x27_3).f2), .int .i64 ((rd_impl_Clue l1 x27_3).f3)] 48 (0, 0)) (fQ BK143) hb); replace HB := tB HB hb; (try clear hb); (try clear hb2); (try clear hk); (try clear hi)))
           go_roundg k3
           case measure => have := HK1.out; have := HK2.out; have := HK3.out; omega
           case rel => exact ⟨(t144), (wrap64 (x27_3 + 1)), eQ, eQ, H', ⟨by have := HK1.out; have := HK2.out; have := HK3.out; omega⟩, ⟨by (with_reducible repeat (first | apply rA | apply rN | apply rD)); exact HO_5.out⟩, ⟨gQ BK141⟩, ⟨bE⟩⟩
          ·replace c10 := Bool.eq_false_iff.mpr c10; subst c10; replace H := iF H; have H' := aM H; clear H; have p142 : 0 ≤ (x27_3 : Int) := dT aQ; have q142 : x27_3 < (l1.length : Int) := dT aQ; obtain ⟨ad142, e142, hx142_0, hx142_1, hx142_2, hx142_3⟩ := at_impl_Clue HR1.out x27_3 p142 q142
           cases e142
           replace hx142_0 := hC HB hx142_0; replace hx142_1 := hC HB hx142_1; replace hx142_2 := hC HB hx142_2; replace hx142_3 := hC HB hx142_3; replace p142 := eq_true p142; replace q142 := eq_true q142
           go_wp2_with (first | ((with_reducible refine gate_dst (N := 11) rfl ?_); refine bV 11 (cs := #[.int .i64 0, .int .i64 0, .int .i64 0, .int .i64 0]) (t := 48) rfl rfl (by first | (go_simp; done) | (go_simp; rfl)) ?_; intro gb143 hg w17 hbox hb; have BK143 := hbox; have GW143 := gZ HB hg; have GE143 := gZ HB hg; have NB141_143 := nG BK141 hg; have NB143_141 := nH BK141 hg; replace HO_5 := aM (Kd.R_below (by (with_reducible repeat (first | apply rA | apply rN | apply rD)); exact HO_5.out) hb); replace BK141 := bB BK141 hb; replace HB := tB HB hb; clear hb hbox hg; have hnb18 := NB143_141.out; have hnc18 := NB141_143.out; have hcz19_0 := vZ0 BK143; have hcz19_1 := vZ1 BK143; have hcz19_2 := vZ2 BK143; have hcz19_3 := vZ3 BK143; have hfz19_0 := kF BK143.out 0; have hfz19_1 := kF BK143.out 1; have hfz19_2 := kF BK143.out 2; have hfz19_3 := kF BK143.out 3))
           go_roundg k3
           case measure => have := HK1.out; have := HK2.out; have := HK3.out; omega
           case rel => exact ⟨(false), (wrap64 (x27_3 + 1)), eQ, eQ, H', ⟨by have := HK1.out; have := HK2.out; have := HK3.out; omega⟩, ⟨by (with_reducible repeat (first | apply rA | apply rN | apply rD)); exact Kd.R_mono (Kd.R_far (p := ⟨gb143, 3, none⟩) (Kd.R_far (p := ⟨gb143, 2, none⟩) (Kd.R_far (p := ⟨gb143, 1, none⟩) (Kd.R_far (p := ⟨gb143, 0, none⟩) (Kd.R_types HO_5.out BK143.out (by decide)) (fun _ hk => hk.2) (.int .i64 ((rd_impl_Clue l1 x27_3).f0))) (fun _ hk => hk.2) (.int .i64 ((rd_impl_Clue l1 x27_3).f1))) (fun _ hk => hk.2) (.int .i64 ((rd_impl_Clue l1 x27_3).f2))) (fun _ hk => hk.2) (.int .i64 ((rd_impl_Clue l1 x27_3).f3))) (fun _ hk => hk.1)⟩, ⟨fQ BK141⟩, ⟨bE⟩⟩
         ·rw [if_neg c7] at H; have c7b0 := decide_eq_false c7; clear c7
          by_cases c20 : x9_3 = true
          ·subst c20; replace H := iT H; replace H := iN H; obtain ⟨c21, H⟩ := H; have LMc21 := aM c21; clear c21; obtain ⟨y145, hy145⟩ : ∃ y_ : List (S_impl_Peg), y_ = (x5_2 ++ [(⟨x6_1, x7_2⟩ : S_impl_Peg)]) := ⟨_, rfl⟩; rw [← hy145] at H; have Ny145 := aM hy145; clear hy145; have H' := aM H; clear H; have hcz22_0 : wr.cell? ⟨gb141, 0, none⟩ = some (.int .i64 x6_1) := vZ0 BK141; have hcz22_1 : wr.cell? ⟨gb141, 1, none⟩ = some (.int .i64 x7_2) := vZ1 BK141; have hfz22_0 := kF BK141.out 0; have hfz22_1 := kF BK141.out 1
           go_wp2_with (first | ((with_reducible refine gate_builtin (b := .append) (xs := #[.tmp 39, .tmp 41]) rfl ?_); at_builtin; refine Kd.R_append kd_impl_Peg (w0 := w) w.heap.size rfl (.tmp 39) (.tmp 41) 26 41 (.agg #[(.int .i64 0), (.int .i64 0)]) 16 rfl Try.underlying26 info41 rfl (by decide) (by omega) u5 x5_2 (⟨x6_1, x7_2⟩ : S_impl_Peg) [.int .i64 x6_1, .int .i64 x7_2] (fun k_ => k_ ≠ gb141) (fun _ => False) rfl rfl ?aP (fun _ hk => hk.elim) ?aF ?aO ?aB ?aS ?aL ?_; (case aP => exact kd_impl_Peg_mkM _ _ _ (⟨x6_1, x7_2⟩ : S_impl_Peg)); (case aB => exact bE); (case aF => exact (fun k_ hk => Kd.freshB (g := gb141) (o := .cells #[.int .i64 x6_1, .int .i64 x7_2] 41 (0, 0)) (gQ BK141) k_ hk)); (case aO => exact (by (with_reducible repeat (first | apply rA | apply rN | apply rD)); exact HO_5.out)); (case aS => exact (pZ bE)); (case aL => have := LMc21.out; omega); intro v146 w23 ho hb hg hat; rw [← Ny145.out] at ho; have n0_ := aM (blk_grown (g := gb141) (o := .cells #[.int .i64 x6_1, .int .i64 x7_2] 41 (0, 0)) (gQ BK141) hg (Kd.R_away HO_5.out (fun _ hk => hk))); have n1_ := aM (hb); have n2_ := aM (ho); clear BK141; clear HB; clear HO_5; have BK141 := n0_; have HB := n1_; have HO147 := n2_; clear n0_ n1_ n2_; clear ho hb hg hat))
           go_roundg k3
           case measure => have := HK1.out; have := HK2.out; have := HK3.out; omega
           case rel => exact ⟨(y145), (wrap64 (x7_2 + 1)), eQ, H', ⟨by have := HK1.out; have := HK2.out; have := HK3.out; omega⟩, ⟨by (with_reducible repeat (first | apply rA | apply rN | apply rD)); exact Kd.R_mono HO147.out (fun _ hk => trivial)⟩, ⟨bE⟩⟩
          ·replace c20 := Bool.eq_false_iff.mpr c20; subst c20; replace H := iF H; have H' := aM H; clear H; go_wp2
           go_roundg k3
           case measure => have := HK1.out; have := HK2.out; have := HK3.out; omega
           case rel => exact ⟨(x5_2), (wrap64 (x7_2 + 1)), eQ, H', ⟨by have := HK1.out; have := HK2.out; have := HK3.out; omega⟩, ⟨by (with_reducible repeat (first | apply rA | apply rN | apply rD)); exact Kd.R_mono HO_5.out (fun _ hk => trivial)⟩, ⟨bE⟩⟩
      ·rw [if_neg c4] at H; have c4b0 := decide_eq_false c4; clear c4; have H' := aM H; clear H; go_wp2
       go_roundg k2
       case measure => have := HK1.out; have := HK2.out; omega
       case rel => exact ⟨(x5_2), (wrap64 (x6_1 + 1)), eQ, H', ⟨by have := HK1.out; have := HK2.out; omega⟩, ⟨by (with_reducible repeat (first | apply rA | apply rN | apply rD)); exact HO_5.out⟩, ⟨bQ⟩⟩
   ·rw [if_neg c3] at H; have c3b0 := decide_eq_false c3; clear c3; obtain rfl := Option.some.inj H; go_wp2
    go_ret
    exact ⟨_, by first | rfl | (simp [errW_none, errW_some] <;> rfl) | (simp [*, errW_none, errW_some] <;> rfl), by (with_reducible repeat (first | apply rA | apply rN | apply rD)); exact HO_5.out, bQ⟩

def spec_pgLess.f (a0_0 : Int) (a0_1 : Int) (a1_0 : Int) (a1_1 : Int) : Option (Bool) := if a0_0 < a1_0 then (some true) else (if a0_0 = a1_0 then (some (decide (a0_1 < a1_1))) else (some false))
set_option maxHeartbeats 8000000 in
set_option maxRecDepth 100000 in
theorem spec_pgLess.calls (a0_0 : Int) (a0_1 : Int) (a1_0 : Int) (a1_1 : Int) (r : Bool) (w : World) (h : spec_pgLess.f a0_0 a0_1 a1_0 a1_1 = some r) :
  Calls Try.prog 106 #[.agg #[.int .i64 a0_0, .int .i64 a0_1], .agg #[.int .i64 a1_0, .int .i64 a1_1]] w fun e w' => e = .returned (.bool r) ∧ Below w.heap.size w w' := by
 have hu41 := Try.underlying41; have HB := aM (Below.refl w.heap.size w)
 unfold spec_pgLess.f at h; have H := h; clear h
 by_cases c3 : a0_0 < a1_0
 ·rw [if_pos c3] at H; have c3b0 := dE c3; clear c3; obtain rfl := Option.some.inj H
  go_enter Try.func106, Try.ntmps106
  go_wp2_with (first | ((with_reducible refine gate_dst (N := 2) rfl ?_); refine bV 2 (cs := #[.int .i64 a0_0, .int .i64 a0_1]) (t := 41) rfl rfl (by first | (go_simp; done) | (go_simp; rfl)) ?_; intro gb148 hg w4 hbox hb; have BK148 := hbox; have GW148 := gZ HB hg; have GE148 := gZ HB hg; replace HB := tB HB hb; clear hb hbox hg) | ((with_reducible refine gate_dst (N := 3) rfl ?_); refine bV 3 (cs := #[.int .i64 a1_0, .int .i64 a1_1]) (t := 41) rfl rfl (by first | (go_simp; done) | (go_simp; rfl)) ?_; intro gb149 hg w5 hbox hb; have BK149 := hbox; have GW149 := gZ HB hg; have GE149 := gZ HB hg; have NB148_149 := nG BK148 hg; have NB149_148 := nH BK148 hg; replace BK148 := bB BK148 hb; replace HB := tB HB hb; clear hb hbox hg; have hnb6 := NB148_149.out; have hnc6 := NB149_148.out; have hcz7_0 := vZ0 BK148; have hcz7_1 := vZ1 BK148; have hfz7_0 := kF BK148.out 0; have hfz7_1 := kF BK148.out 1; have hcz8_0 := vZ0 BK149; have hcz8_1 := vZ1 BK149; have hfz8_0 := kF BK149.out 0; have hfz8_1 := kF BK149.out 1))
  go_ret
  exact ⟨wQ, bE⟩
 ·rw [if_neg c3] at H; have c3b0 := decide_eq_false c3; clear c3
  by_cases c9 : a0_0 = a1_0
  ·rw [if_pos c9] at H; have c9b0 : (a0_0 == a1_0) = true := beq_iff_eq.mpr c9; have c9b1 : (a0_0 != a1_0) = false := bne_eq_false_iff_eq.mpr c9; clear c9; obtain rfl := Option.some.inj H
   go_enter Try.func106, Try.ntmps106
   go_wp2_with (first | ((with_reducible refine gate_dst (N := 2) rfl ?_); refine bV 2 (cs := #[.int .i64 a0_0, .int .i64 a0_1]) (t := 41) rfl rfl (by first | (go_simp; done) | (go_simp; rfl)) ?_; intro gb148 hg w10 hbox hb; have BK148 := hbox; have GW148 := gZ HB hg; have GE148 := gZ HB hg; replace HB := tB HB hb; clear hb hbox hg) | ((with_reducible refine gate_dst (N := 3) rfl ?_); refine bV 3 (cs := #[.int .i64 a1_0, .int .i64 a1_1]) (t := 41) rfl rfl (by first | (go_simp; done) | (go_simp; rfl)) ?_; intro gb149 hg w11 hbox hb; have BK149 := hbox; have GW149 := gZ HB hg; have GE149 := gZ HB hg; have NB148_149 := nG BK148 hg; have NB149_148 := nH BK148 hg; replace BK148 := bB BK148 hb; replace HB := tB HB hb; clear hb hbox hg; have hnb12 := NB148_149.out; have hnc12 := NB149_148.out; have hcz13_0 := vZ0 BK148; have hcz13_1 := vZ1 BK148; have hfz13_0 := kF BK148.out 0; have hfz13_1 := kF BK148.out 1; have hcz14_0 := vZ0 BK149; have hcz14_1 := vZ1 BK149; have hfz14_0 := kF BK149.out 0; have hfz14_1 := kF BK149.out 1))
   go_ret
   exact ⟨wQ, bE⟩
  ·rw [if_neg c9] at H; have c9b0 : (a0_0 == a1_0) = false := beq_eq_false_iff_ne.mpr c9; have c9b1 : (a0_0 != a1_0) = true := bne_iff_ne.mpr c9; obtain rfl := Option.some.inj H
   go_enter Try.func106, Try.ntmps106
   go_wp2_with (first | ((with_reducible refine gate_dst (N := 2) rfl ?_); refine bV 2 (cs := #[.int .i64 a0_0, .int .i64 a0_1]) (t := 41) rfl rfl (by first | (go_simp; done) | (go_simp; rfl)) ?_; intro gb148 hg w15 hbox hb; have BK148 := hbox; have GW148 := gZ HB hg; have GE148 := gZ HB hg; replace HB := tB HB hb; clear hb hbox hg) | ((with_reducible refine gate_dst (N := 3) rfl ?_); refine bV 3 (cs := #[.int .i64 a1_0, .int .i64 a1_1]) (t := 41) rfl rfl (by first | (go_simp; done) | (go_simp; rfl)) ?_; intro gb149 hg w16 hbox hb; have BK149 := hbox; have GW149 := gZ HB hg; have GE149 := gZ HB hg; have NB148_149 := nG BK148 hg; have NB149_148 := nH BK148 hg; replace BK148 := bB BK148 hb; replace HB := tB HB hb; clear hb hbox hg; have hnb17 := NB148_149.out; have hnc17 := NB149_148.out; have hcz18_0 := vZ0 BK148; have hcz18_1 := vZ1 BK148; have hfz18_0 := kF BK148.out 0; have hfz18_1 := kF BK148.out 1; have hcz19_0 := vZ0 BK149; have hcz19_1 := vZ1 BK149; have hfz19_0 := kF BK149.out 0; have hfz19_1 := kF BK149.out 1))
   go_ret
   exact ⟨wQ, bE⟩

end Go.Proofs.Ytoeclfihlhmnpaa.X
