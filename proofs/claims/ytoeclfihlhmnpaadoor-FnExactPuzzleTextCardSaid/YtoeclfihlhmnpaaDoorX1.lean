-- thin
-- short
-- compact
import Derived.Test.YtoeclfihlhmnpaaDoorXA
import Derived.Test.YtoeclfihlhmnpaaDoorX0
namespace Go.Proofs.YtoeclfihlhmnpaaDoor.X
open Go.RowKit Go.Proofs.YtoeclfihlhmnpaaDoor.XW Go.Proofs.YtoeclfihlhmnpaaDoorW.PrintWords Go.Proofs.YtoeclfihlhmnpaaDoorW.PrintLast Go.Proofs.YtoeclfihlhmnpaaDoorW.PrintMore
attribute [local go_sem] max2_int min2_int max_two min_two max_three min_three max_four min_four   -- for this text's walks alone
set_option linter.unusedVariables false
set_option linter.unusedSimpArgs false

def laws_eqClue.f (a0_0 : Int) (a0_1 : Int) (a0_2 : Int) (a0_3 : Int) (a1_0 : Int) (a1_1 : Int) (a1_2 : Int) (a1_3 : Int) : Option (Bool) := if a0_0 = a1_0 then (if a0_1 = a1_1 then (if a0_2 = a1_2 then (if a0_3 = a1_3 then (some true) else (some false)) else (some false)) else (some false)) else (some false)
set_option maxHeartbeats 8000000 in
set_option maxRecDepth 100000 in
theorem laws_eqClue.calls (a0_0 : Int) (a0_1 : Int) (a0_2 : Int) (a0_3 : Int) (a1_0 : Int) (a1_1 : Int) (a1_2 : Int) (a1_3 : Int) (r : Bool) (w : World) (h : laws_eqClue.f a0_0 a0_1 a0_2 a0_3 a1_0 a1_1 a1_2 a1_3 = some r) :
  Calls Tryd.prog 39 #[.agg #[.int .i64 a0_0, .int .i64 a0_1, .int .i64 a0_2, .int .i64 a0_3], .agg #[.int .i64 a1_0, .int .i64 a1_1, .int .i64 a1_2, .int .i64 a1_3]] w fun e w' => e = .returned (.bool r) ∧ Below w.heap.size w w' := by
 have hu48 := Tryd.underlying48; have HB := aM (Below.refl w.heap.size w)
 unfold laws_eqClue.f at h; have H := h; clear h
 by_cases c3 : a0_0 = a1_0
 ·rw [if_pos c3] at H; have c3b0 : (a0_0 == a1_0) = true := beq_iff_eq.mpr c3; have c3b1 : (a0_0 != a1_0) = false := bne_eq_false_iff_eq.mpr c3; clear c3
  by_cases c4 : a0_1 = a1_1
  ·rw [if_pos c4] at H; have c4b0 : (a0_1 == a1_1) = true := beq_iff_eq.mpr c4; have c4b1 : (a0_1 != a1_1) = false := bne_eq_false_iff_eq.mpr c4; clear c4
   by_cases c5 : a0_2 = a1_2
   ·rw [if_pos c5] at H; have c5b0 : (a0_2 == a1_2) = true := beq_iff_eq.mpr c5; have c5b1 : (a0_2 != a1_2) = false := bne_eq_false_iff_eq.mpr c5; clear c5
    by_cases c6 : a0_3 = a1_3
    ·rw [if_pos c6] at H; have c6b0 : (a0_3 == a1_3) = true := beq_iff_eq.mpr c6; have c6b1 : (a0_3 != a1_3) = false := bne_eq_false_iff_eq.mpr c6; clear c6; obtain rfl := Option.some.inj H
     go_enter Tryd.func39, Tryd.ntmps39
     go_wp2_with (first | ((with_reducible refine gate_dst (N := 2) rfl ?_); refine bV 2 (cs := #[.int .i64 a0_0, .int .i64 a0_1, .int .i64 a0_2, .int .i64 a0_3]) (t := 48) rfl rfl (by first | (go_simp; done) | (go_simp; rfl)) ?_; intro gb101 hg w7 hbox hb; have BK101 := hbox; have GW101 := gZ HB hg; have GE101 := gZ HB hg; replace HB := tB HB hb; clear hb hbox hg) | ((with_reducible refine gate_dst (N := 3) rfl ?_); refine bV 3 (cs := #[.int .i64 a1_0, .int .i64 a1_1, .int .i64 a1_2, .int .i64 a1_3]) (t := 48) rfl rfl (by first | (go_simp; done) | (go_simp; rfl)) ?_; intro gb102 hg w8 hbox hb; have BK102 := hbox; have GW102 := gZ HB hg; have GE102 := gZ HB hg; have NB101_102 := nG BK101 hg; have NB102_101 := nH BK101 hg; replace BK101 := bB BK101 hb; replace HB := tB HB hb; clear hb hbox hg; have hnb9 := NB101_102.out; have hnc9 := NB102_101.out; have hcz10_0 := vZ0 BK101; have hcz10_1 := vZ1 BK101; have hcz10_2 := vZ2 BK101; have hcz10_3 := vZ3 BK101; have hfz10_0 := kF BK101.out 0; have hfz10_1 := kF BK101.out 1; have hfz10_2 := kF BK101.out 2; have hfz10_3 := kF BK101.out 3; have hcz11_0 := vZ0 BK102; have hcz11_1 := vZ1 BK102; have hcz11_2 := vZ2 BK102; have hcz11_3 := vZ3 BK102; have hfz11_0 := kF BK102.out 0; have hfz11_1 := kF BK102.out 1; have hfz11_2 := kF BK102.out 2; have hfz11_3 := kF BK102.out 3))
     go_ret
     exact ⟨wQ, bE⟩
    ·rw [if_neg c6] at H; have c6b0 : (a0_3 == a1_3) = false := beq_eq_false_iff_ne.mpr c6; have c6b1 : (a0_3 != a1_3) = true := bne_iff_ne.mpr c6; obtain rfl := Option.some.inj H
     go_enter Tryd.func39, Tryd.ntmps39
     go_wp2_with (first | ((with_reducible refine gate_dst (N := 2) rfl ?_); refine bV 2 (cs := #[.int .i64 a0_0, .int .i64 a0_1, .int .i64 a0_2, .int .i64 a0_3]) (t := 48) rfl rfl (by first | (go_simp; done) | (go_simp; rfl)) ?_; intro gb101 hg w12 hbox hb; have BK101 := hbox; have GW101 := gZ HB hg; have GE101 := gZ HB hg; replace HB := tB HB hb; clear hb hbox hg) | ((with_reducible refine gate_dst (N := 3) rfl ?_); refine bV 3 (cs := #[.int .i64 a1_0, .int .i64 a1_1, .int .i64 a1_2, .int .i64 a1_3]) (t := 48) rfl rfl (by first | (go_simp; done) | (go_simp; rfl)) ?_; intro gb102 hg w13 hbox hb; have BK102 := hbox; have GW102 := gZ HB hg; have GE102 := gZ HB hg; have NB101_102 := nG BK101 hg; have NB102_101 := nH BK101 hg; replace BK101 := bB BK101 hb; replace HB := tB HB hb; clear hb hbox hg; have hnb14 := NB101_102.out; have hnc14 := NB102_101.out; have hcz15_0 := vZ0 BK101; have hcz15_1 := vZ1 BK101; have hcz15_2 := vZ2 BK101; have hcz15_3 := vZ3 BK101; have hfz15_0 := kF BK101.out 0; have hfz15_1 := kF BK101.out 1; have hfz15_2 := kF BK101.out 2; have hfz15_3 := kF BK101.out 3; have hcz16_0 := vZ0 BK102; have hcz16_1 := vZ1 BK102; have hcz16_2 := vZ2 BK102; have hcz16_3 := vZ3 BK102; have hfz16_0 := kF BK102.out 0; have hfz16_1 := kF BK102.out 1; have hfz16_2 := kF BK102.out 2; have hfz16_3 := kF BK102.out 3))
     go_ret
     exact ⟨wQ, bE⟩
   ·rw [if_neg c5] at H; have c5b0 : (a0_2 == a1_2) = false := beq_eq_false_iff_ne.mpr c5; have c5b1 : (a0_2 != a1_2) = true := bne_iff_ne.mpr c5; obtain rfl := Option.some.inj H
    go_enter Tryd.func39, Tryd.ntmps39
    go_wp2_with (first | ((with_reducible refine gate_dst (N := 2) rfl ?_); refine bV 2 (cs := #[.int .i64 a0_0, .int .i64 a0_1, .int .i64 a0_2, .int .i64 a0_3]) (t := 48) rfl rfl (by first | (go_simp; done) | (go_simp; rfl)) ?_; intro gb101 hg w17 hbox hb; have BK101 := hbox; have GW101 := gZ HB hg; have GE101 := gZ HB hg; replace HB := tB HB hb; clear hb hbox hg) | ((with_reducible refine gate_dst (N := 3) rfl ?_); refine bV 3 (cs := #[.int .i64 a1_0, .int .i64 a1_1, .int .i64 a1_2, .int .i64 a1_3]) (t := 48) rfl rfl (by first | (go_simp; done) | (go_simp; rfl)) ?_; intro gb102 hg w18 hbox hb; have BK102 := hbox; have GW102 := gZ HB hg; have GE102 := gZ HB hg; have NB101_102 := nG BK101 hg; have NB102_101 := nH BK101 hg; replace BK101 := bB BK101 hb; replace HB := tB HB hb; clear hb hbox hg; have hnb19 := NB101_102.out; have hnc19 := NB102_101.out; have hcz20_0 := vZ0 BK101; have hcz20_1 := vZ1 BK101; have hcz20_2 := vZ2 BK101; have hcz20_3 := vZ3 BK101; have hfz20_0 := kF BK101.out 0; have hfz20_1 := kF BK101.out 1; have hfz20_2 := kF BK101.out 2; have hfz20_3 := kF BK101.out 3; have hcz21_0 := vZ0 BK102; have hcz21_1 := vZ1 BK102; have hcz21_2 := vZ2 BK102; have hcz21_3 := vZ3 BK102; have hfz21_0 := kF BK102.out 0; have hfz21_1 := kF BK102.out 1; have hfz21_2 := kF BK102.out 2; have hfz21_3 := kF BK102.out 3))
    go_ret
    exact ⟨wQ, bE⟩
  ·rw [if_neg c4] at H; have c4b0 : (a0_1 == a1_1) = false := beq_eq_false_iff_ne.mpr c4; have c4b1 : (a0_1 != a1_1) = true := bne_iff_ne.mpr c4; obtain rfl := Option.some.inj H
   go_enter Tryd.func39, Tryd.ntmps39
   go_wp2_with (first | ((with_reducible refine gate_dst (N := 2) rfl ?_); refine bV 2 (cs := #[.int .i64 a0_0, .int .i64 a0_1, .int .i64 a0_2, .int .i64 a0_3]) (t := 48) rfl rfl (by first | (go_simp; done) | (go_simp; rfl)) ?_; intro gb101 hg w22 hbox hb; have BK101 := hbox; have GW101 := gZ HB hg; have GE101 := gZ HB hg; replace HB := tB HB hb; clear hb hbox hg) | ((with_reducible refine gate_dst (N := 3) rfl ?_); refine bV 3 (cs := #[.int .i64 a1_0, .int .i64 a1_1, .int .i64 a1_2, .int .i64 a1_3]) (t := 48) rfl rfl (by first | (go_simp; done) | (go_simp; rfl)) ?_; intro gb102 hg w23 hbox hb; have BK102 := hbox; have GW102 := gZ HB hg; have GE102 := gZ HB hg; have NB101_102 := nG BK101 hg; have NB102_101 := nH BK101 hg; replace BK101 := bB BK101 hb; replace HB := tB HB hb; clear hb hbox hg; have hnb24 := NB101_102.out; have hnc24 := NB102_101.out; have hcz25_0 := vZ0 BK101; have hcz25_1 := vZ1 BK101; have hcz25_2 := vZ2 BK101; have hcz25_3 := vZ3 BK101; have hfz25_0 := kF BK101.out 0; have hfz25_1 := kF BK101.out 1; have hfz25_2 := kF BK101.out 2; have hfz25_3 := kF BK101.out 3; have hcz26_0 := vZ0 BK102; have hcz26_1 := vZ1 BK102; have hcz26_2 := vZ2 BK102; have hcz26_3 := vZ3 BK102; have hfz26_0 := kF BK102.out 0; have hfz26_1 := kF BK102.out 1; have hfz26_2 := kF BK102.out 2; have hfz26_3 := kF BK102.out 3))
   go_ret
   exact ⟨wQ, bE⟩
 ·rw [if_neg c3] at H; have c3b0 : (a0_0 == a1_0) = false := beq_eq_false_iff_ne.mpr c3; have c3b1 : (a0_0 != a1_0) = true := bne_iff_ne.mpr c3; obtain rfl := Option.some.inj H
  go_enter Tryd.func39, Tryd.ntmps39
  go_wp2_with (first | ((with_reducible refine gate_dst (N := 2) rfl ?_); refine bV 2 (cs := #[.int .i64 a0_0, .int .i64 a0_1, .int .i64 a0_2, .int .i64 a0_3]) (t := 48) rfl rfl (by first | (go_simp; done) | (go_simp; rfl)) ?_; intro gb101 hg w27 hbox hb; have BK101 := hbox; have GW101 := gZ HB hg; have GE101 := gZ HB hg; replace HB := tB HB hb; clear hb hbox hg) | ((with_reducible refine gate_dst (N := 3) rfl ?_); refine bV 3 (cs := #[.int .i64 a1_0, .int .i64 a1_1, .int .i64 a1_2, .int .i64 a1_3]) (t := 48) rfl rfl (by first | (go_simp; done) | (go_simp; rfl)) ?_; intro gb102 hg w28 hbox hb; have BK102 := hbox; have GW102 := gZ HB hg; have GE102 := gZ HB hg; have NB101_102 := nG BK101 hg; have NB102_101 := nH BK101 hg; replace BK101 := bB BK101 hb; replace HB := tB HB hb; clear hb hbox hg; have hnb29 := NB101_102.out; have hnc29 := NB102_101.out; have hcz30_0 := vZ0 BK101; have hcz30_1 := vZ1 BK101; have hcz30_2 := vZ2 BK101; have hcz30_3 := vZ3 BK101; have hfz30_0 := kF BK101.out 0; have hfz30_1 := kF BK101.out 1; have hfz30_2 := kF BK101.out 2; have hfz30_3 := kF BK101.out 3; have hcz31_0 := vZ0 BK102; have hcz31_1 := vZ1 BK102; have hcz31_2 := vZ2 BK102; have hcz31_3 := vZ3 BK102; have hfz31_0 := kF BK102.out 0; have hfz31_1 := kF BK102.out 1; have hfz31_2 := kF BK102.out 2; have hfz31_3 := kF BK102.out 3))
  go_ret
  exact ⟨wQ, bE⟩

def laws_eqClueS.l0 : Nat → List (S_impl_Clue) → List (S_impl_Clue) → Int → Option (Bool)
 | 0, _, _, _ => none
 | k + 1, x0, x1, x5 => if x5 < (x0.length : Int) then (if 0 ≤ x5 then (if x5 < (x1.length : Int) then ((laws_eqClue.f ((rd_impl_Clue x0 x5).f0) ((rd_impl_Clue x0 x5).f1) ((rd_impl_Clue x0 x5).f2) ((rd_impl_Clue x0 x5).f3) ((rd_impl_Clue x1 x5).f0) ((rd_impl_Clue x1 x5).f1) ((rd_impl_Clue x1 x5).f2) ((rd_impl_Clue x1 x5).f3)).bind fun t105 => (if t105 = true then (laws_eqClueS.l0 k x0 x1 (wrap64 (x5 + 1))) else (some false))) else (none)) else (none)) else (some true)
def laws_eqClueS.f (k : Nat) (l0 : List (S_impl_Clue)) (l1 : List (S_impl_Clue)) : Option (Bool) := if (l0.length : Int) = (l1.length : Int) then (laws_eqClueS.l0 k l0 l1 0) else (some false)
theorem laws_eqClueS.mono_l : ∀ k, (∀ y0 y1 y2, LeO (laws_eqClueS.l0 k y0 y1 y2) (laws_eqClueS.l0 (k + 1) y0 y1 y2))
 | 0 => fun _ _ _ r h => by simp [laws_eqClueS.l0] at h
 | k + 1 => by
  have ih0 := laws_eqClueS.mono_l k
  ·intro y0 y1 y2
   unfold laws_eqClueS.l0
   repeat' first
   | (with_reducible exact ih0 _ _ _)
   | (with_reducible exact LeO.refl _)
   | (with_reducible exact LeO.none _)
   | (with_reducible refine LeO.ite ?_ ?_)
   | (with_reducible refine LeO.bind ?_ (fun _ => ?_))
   | exact ih0 _ _ _
   | exact LeO.none _
   | refine LeO.ite ?_ ?_
   | refine LeO.bind ?_ (fun _ => ?_)
theorem laws_eqClueS.mono : ∀ a0 a1 k, LeO (laws_eqClueS.f k a0 a1) (laws_eqClueS.f (k + 1) a0 a1) := by
 intro a0 a1 k
 have ih0 := laws_eqClueS.mono_l k
 unfold laws_eqClueS.f
 repeat' first | (with_reducible exact ih0 _ _ _) | (with_reducible exact LeO.refl _) | (with_reducible exact LeO.none _) | (with_reducible refine LeO.ite ?_ ?_) | (with_reducible refine LeO.bind ?_ (fun _ => ?_)) | exact ih0 _ _ _ | exact LeO.none _ | refine LeO.ite ?_ ?_ | refine LeO.bind ?_ (fun _ => ?_)
def laws_eqClueS.T6 : Bool × List (List Nat × List Nat) := (true, [([], []), ([], []), ([0, 1], [0, 1]), ([2], [2]), ([], []), ([], []), ([4, 5], [4, 5]), ([6], [6]), ([3, 7], [3, 7]), ([8], [8])])
def laws_eqClueS.B6 : List Nat := [0, 0, 3, 7, 0, 0, 48, 112, 255, 511]
theorem laws_eqClueS.tab6 : rtab .any (opsOf Tryd.f20 6) = laws_eqClueS.T6 := by kernel_rfl
theorem laws_eqClueS.bits6 : waitsOk laws_eqClueS.T6.2 laws_eqClueS.B6 = true := by kernel_rfl
set_option maxHeartbeats 8000000 in
set_option maxRecDepth 100000 in
theorem laws_eqClueS.calls (k : Nat) (A0 : Option Addr) (c0 : Nat) (l0 : List (S_impl_Clue)) (A1 : Option Addr) (c1 : Nat) (l1 : List (S_impl_Clue)) (r : Bool) (w : World) (hr0 : Kd.C kd_impl_Clue w A0 l0.length l0) (hc0 : l0.length ≤ c0) (hr1 : Kd.C kd_impl_Clue w A1 l1.length l1) (hc1 : l1.length ≤ c1) (h : laws_eqClueS.f k l0 l1 = some r) :
  Calls Tryd.prog 20 #[.slice A0 l0.length c0, .slice A1 l1.length c1] w fun e w' => e = .returned (.bool r) ∧ Below w.heap.size w w' := by
 have hu48 := Tryd.underlying48; have HR0 := aM hr0; have HC0 := aM hc0; clear hr0 hc0; have HR1 := aM hr1; have HC1 := aM hc1; clear hr1 hc1; have HB := aM (Below.refl w.heap.size w)
 unfold laws_eqClueS.f at h; have H := h; clear h
 by_cases c3 : (l0.length : Int) = (l1.length : Int)
 ·rw [if_pos c3] at H; have c3b0 : ((l0.length : Int) == (l1.length : Int)) = true := beq_iff_eq.mpr c3; have c3b1 : ((l0.length : Int) != (l1.length : Int)) = false := bne_eq_false_iff_eq.mpr c3; have c3b2 : (l0.length == l1.length) = true := by first | simpa using c3 | (simp at c3 ⊢; omega)
  clear c3; have H' := aM H; clear H
  go_enter Tryd.func20, Tryd.ntmps20
  go_wp2
  go_loopg [5] k (fun kq v5 w' => ∃ (x5_1 : Int), v5 = .int .i64 x5_1 ∧ Aside0 (laws_eqClueS.l0 kq l0 l1 x5_1 = some r) ∧ Aside0 (kq ≤ k) ∧ Aside0 (Below w.heap.size w w'))
  case atStart => exact ⟨(0), eQ, H', ⟨Nat.le_refl _⟩, ⟨bQ⟩⟩
  case round =>
   clear H'; (try clear c1); (try clear c3); (try clear c3b0); (try clear c3b1); (try clear c3b2); obtain ⟨x5_1, rfl, HA, HK1, HB⟩ := hrel
   cases gk with
   | zero => exact absurd HA.out (by simp [laws_eqClueS.l0])
   | succ k1 =>
    have H := HA.out; clear HA
    simp only [laws_eqClueS.l0] at H
    by_cases c4 : x5_1 < (l0.length : Int)
    ·rw [if_pos c4] at H; have c4b0 := dE c4; clear c4; replace H := iD H; obtain ⟨c5b0, H⟩ := H; replace H := iD H; obtain ⟨c6b0, H⟩ := H; replace H := bS H; obtain ⟨t105, A7, H⟩ := H
     by_cases c8 : t105 = true
     ·subst c8; replace H := iT H; have H' := aM H; clear H
      try go_wp2
      replace HB := aM (pD HB.out); have p103 : 0 ≤ (x5_1 : Int) := dT aQ; have q103 : x5_1 < (l0.length : Int) := dT aQ; obtain ⟨ad103, e103, hx103_0, hx103_1, hx103_2, hx103_3⟩ := at_impl_Clue HR0.out x5_1 p103 q103; have hw103_3 := hx103_3; have hw103_2 := hx103_2; have hw103_1 := hx103_1; have hw103_0 := hx103_0
      cases e103
      replace hx103_0 := hC HB hx103_0; replace hx103_1 := hC HB hx103_1; replace hx103_2 := hC HB hx103_2; replace hx103_3 := hC HB hx103_3; replace p103 := eq_true p103; replace q103 := eq_true q103; have p104 : 0 ≤ (x5_1 : Int) := dT aQ; have q104 : x5_1 < (l1.length : Int) := dT aQ; obtain ⟨ad104, e104, hx104_0, hx104_1, hx104_2, hx104_3⟩ := at_impl_Clue HR1.out x5_1 p104 q104; have hw104_3 := hx104_3; have hw104_2 := hx104_2; have hw104_1 := hx104_1; have hw104_0 := hx104_0
      cases e104
      replace hx104_0 := hC HB hx104_0; replace hx104_1 := hC HB hx104_1; replace hx104_2 := hC HB hx104_2; replace hx104_3 := hC HB hx104_3; replace p104 := eq_true p104; replace q104 := eq_true q104
      refine start_ (n := 10) (S := fun w' => w'.cell? (ad103.add ((x5_1).toNat * 4)) = some (.int .i64 ((rd_impl_Clue l0 x5_1).f0)) ∧ w'.cell? ⟨(ad103.add ((x5_1).toNat * 4)).block, (ad103.add ((x5_1).toNat * 4)).off + 1, none⟩ = some (.int .i64 ((rd_impl_Clue l0 x5_1).f1)) ∧ w'.cell? ⟨(ad103.add ((x5_1).toNat * 4)).block, (ad103.add ((x5_1).toNat * 4)).off + 2, none⟩ = some (.int .i64 ((rd_impl_Clue l0 x5_1).f2)) ∧ w'.cell? ⟨(ad103.add ((x5_1).toNat * 4)).block, (ad103.add ((x5_1).toNat * 4)).off + 3, none⟩ = some (.int .i64 ((rd_impl_Clue l0 x5_1).f3)) ∧ w'.cell? (ad104.add ((x5_1).toNat * 4)) = some (.int .i64 ((rd_impl_Clue l1 x5_1).f0)) ∧ w'.cell? ⟨(ad104.add ((x5_1).toNat * 4)).block, (ad104.add ((x5_1).toNat * 4)).off + 1, none⟩ = some (.int .i64 ((rd_impl_Clue l1 x5_1).f1)) ∧ w'.cell? ⟨(ad104.add ((x5_1).toNat * 4)).block, (ad104.add ((x5_1).toNat * 4)).off + 2, none⟩ = some (.int .i64 ((rd_impl_Clue l1 x5_1).f2)) ∧ w'.cell? ⟨(ad104.add ((x5_1).toNat * 4)).block, (ad104.add ((x5_1).toNat * 4)).off + 3, none⟩ = some (.int .i64 ((rd_impl_Clue l1 x5_1).f3))) (ds := []) (bA 10 0) kR rfl kR ⟨(hC HB hw103_0 :), (hC HB hw103_1 :), (hC HB hw103_2 :), (hC HB hw103_3 :), (hC HB hw104_0 :), (hC HB hw104_1 :), (hC HB hw104_2 :), (hC HB hw104_3 :)⟩ (fun hHeld => ?_); refine with_tabW laws_eqClueS.tab6 laws_eqClueS.bits6 (fun HT_ HW_ => ?_)
      generalize wr.drew = w9 at HB hx103_0 hx103_1 hx103_2 hx103_3 hx104_0 hx104_1 hx104_2 hx104_3 hHeld ⊢
      refine pU 0 17 (bA 10 1) HT_ ?_; refine pU 1 18 (bA 10 3) HT_ ?_; refine pU 2 19 (bA 10 7) HT_ ?_; refine pU 4 21 (bA 10 23) HT_ ?_; refine pU 5 22 (bA 10 55) HT_ ?_; refine pU 6 23 (bA 10 119) HT_ ?_
      refine tU 3 20 (bA 10 127) HT_ HW_ hHeld ?_ (hy := Or.inl ⟨by rfl, by rintro w' ⟨s0, s1, s2, s3, s4, s5, s6, s7⟩; go_simp; with_reducible rfl⟩)
      refine tU 7 24 (bA 10 255) HT_ HW_ hHeld ?_ (hy := Or.inl ⟨by rfl, by rintro w' ⟨s0, s1, s2, s3, s4, s5, s6, s7⟩; go_simp; with_reducible rfl⟩)
      refine oU 8 25 (bA 10 511) HT_ (fun K hK => ?_)
      refine goes_ Tryd.func39 kR rfl #[.agg #[.int .i64 ((rd_impl_Clue l0 x5_1).f0), .int .i64 ((rd_impl_Clue l0 x5_1).f1), .int .i64 ((rd_impl_Clue l0 x5_1).f2), .int .i64 ((rd_impl_Clue l0 x5_1).f3)], .agg #[.int .i64 ((rd_impl_Clue l1 x5_1).f0), .int .i64 ((rd_impl_Clue l1 x5_1).f1), .int .i64 ((rd_impl_Clue l1 x5_1).f2), .int .i64 ((rd_impl_Clue l1 x5_1).f3)]] (by rfl) rfl rfl sQ ?_
      with_reducible refine (laws_eqClue.calls ((rd_impl_Clue l0 x5_1).f0) ((rd_impl_Clue l0 x5_1).f1) ((rd_impl_Clue l0 x5_1).f2) ((rd_impl_Clue l0 x5_1).f3) ((rd_impl_Clue l1 x5_1).f0) ((rd_impl_Clue l1 x5_1).f1) ((rd_impl_Clue l1 x5_1).f2) ((rd_impl_Clue l1 x5_1).f3) true _ A7.out).mono ?_
      rintro e w10 ⟨rfl, hb⟩; refine ⟨_, rfl, ?_⟩; replace HB := tB HB hb; (try clear hb); (try clear hb2); (try clear hk); (try clear hi)
      refine hK.out _ _ ⟨(hC HB hw103_0 :), (hC HB hw103_1 :), (hC HB hw103_2 :), (hC HB hw103_3 :), (hC HB hw104_0 :), (hC HB hw104_1 :), (hC HB hw104_2 :), (hC HB hw104_3 :)⟩ (fun hHeld => ?_)
      clear hK K
      refine nU ?_
      refine pU 9 26 (bA 10 1023) HT_ ?_
      refine done_ (done_of HT_.out kR) ?_
      try go_wp2
      go_roundg k1
      case measure => have := HK1.out; omega
      case rel => exact ⟨(wrap64 (x5_1 + 1)), eQ, H', ⟨by have := HK1.out; omega⟩, ⟨bQ⟩⟩
     ·replace c8 := Bool.eq_false_iff.mpr c8; subst c8; replace H := iF H; obtain rfl := Option.some.inj H
      try go_wp2
      replace HB := aM (pD HB.out); have p103 : 0 ≤ (x5_1 : Int) := dT aQ; have q103 : x5_1 < (l0.length : Int) := dT aQ; obtain ⟨ad103, e103, hx103_0, hx103_1, hx103_2, hx103_3⟩ := at_impl_Clue HR0.out x5_1 p103 q103; have hw103_3 := hx103_3; have hw103_2 := hx103_2; have hw103_1 := hx103_1; have hw103_0 := hx103_0
      cases e103
      replace hx103_0 := hC HB hx103_0; replace hx103_1 := hC HB hx103_1; replace hx103_2 := hC HB hx103_2; replace hx103_3 := hC HB hx103_3; replace p103 := eq_true p103; replace q103 := eq_true q103; have p104 : 0 ≤ (x5_1 : Int) := dT aQ; have q104 : x5_1 < (l1.length : Int) := dT aQ; obtain ⟨ad104, e104, hx104_0, hx104_1, hx104_2, hx104_3⟩ := at_impl_Clue HR1.out x5_1 p104 q104; have hw104_3 := hx104_3; have hw104_2 := hx104_2; have hw104_1 := hx104_1; have hw104_0 := hx104_0
      cases e104
      replace hx104_0 := hC HB hx104_0; replace hx104_1 := hC HB hx104_1; replace hx104_2 := hC HB hx104_2; replace hx104_3 := hC HB hx104_3; replace p104 := eq_true p104; replace q104 := eq_true q104
      refine start_ (n := 10) (S := fun w' => w'.cell? (ad103.add ((x5_1).toNat * 4)) = some (.int .i64 ((rd_impl_Clue l0 x5_1).f0)) ∧ w'.cell? ⟨(ad103.add ((x5_1).toNat * 4)).block, (ad103.add ((x5_1).toNat * 4)).off + 1, none⟩ = some (.int .i64 ((rd_impl_Clue l0 x5_1).f1)) ∧ w'.cell? ⟨(ad103.add ((x5_1).toNat * 4)).block, (ad103.add ((x5_1).toNat * 4)).off + 2, none⟩ = some (.int .i64 ((rd_impl_Clue l0 x5_1).f2)) ∧ w'.cell? ⟨(ad103.add ((x5_1).toNat * 4)).block, (ad103.add ((x5_1).toNat * 4)).off + 3, none⟩ = some (.int .i64 ((rd_impl_Clue l0 x5_1).f3)) ∧ w'.cell? (ad104.add ((x5_1).toNat * 4)) = some (.int .i64 ((rd_impl_Clue l1 x5_1).f0)) ∧ w'.cell? ⟨(ad104.add ((x5_1).toNat * 4)).block, (ad104.add ((x5_1).toNat * 4)).off + 1, none⟩ = some (.int .i64 ((rd_impl_Clue l1 x5_1).f1)) ∧ w'.cell? ⟨(ad104.add ((x5_1).toNat * 4)).block, (ad104.add ((x5_1).toNat * 4)).off + 2, none⟩ = some (.int .i64 ((rd_impl_Clue l1 x5_1).f2)) ∧ w'.cell? ⟨(ad104.add ((x5_1).toNat * 4)).block, (ad104.add ((x5_1).toNat * 4)).off + 3, none⟩ = some (.int .i64 ((rd_impl_Clue l1 x5_1).f3))) (ds := []) (bA 10 0) kR rfl kR ⟨(hC HB hw103_0 :), (hC HB hw103_1 :), (hC HB hw103_2 :), (hC HB hw103_3 :), (hC HB hw104_0 :), (hC HB hw104_1 :), (hC HB hw104_2 :), (hC HB hw104_3 :)⟩ (fun hHeld => ?_); refine with_tabW laws_eqClueS.tab6 laws_eqClueS.bits6 (fun HT_ HW_ => ?_)
      generalize wr.drew = w11 at HB hx103_0 hx103_1 hx103_2 hx103_3 hx104_0 hx104_1 hx104_2 hx104_3 hHeld ⊢
      refine pU 0 17 (bA 10 1) HT_ ?_; refine pU 1 18 (bA 10 3) HT_ ?_; refine pU 2 19 (bA 10 7) HT_ ?_; refine pU 4 21 (bA 10 23) HT_ ?_; refine pU 5 22 (bA 10 55) HT_ ?_; refine pU 6 23 (bA 10 119) HT_ ?_
      refine tU 3 20 (bA 10 127) HT_ HW_ hHeld ?_ (hy := Or.inl ⟨by rfl, by rintro w' ⟨s0, s1, s2, s3, s4, s5, s6, s7⟩; go_simp; with_reducible rfl⟩)
      refine tU 7 24 (bA 10 255) HT_ HW_ hHeld ?_ (hy := Or.inl ⟨by rfl, by rintro w' ⟨s0, s1, s2, s3, s4, s5, s6, s7⟩; go_simp; with_reducible rfl⟩)
      refine oU 8 25 (bA 10 511) HT_ (fun K hK => ?_)
      refine goes_ Tryd.func39 kR rfl #[.agg #[.int .i64 ((rd_impl_Clue l0 x5_1).f0), .int .i64 ((rd_impl_Clue l0 x5_1).f1), .int .i64 ((rd_impl_Clue l0 x5_1).f2), .int .i64 ((rd_impl_Clue l0 x5_1).f3)], .agg #[.int .i64 ((rd_impl_Clue l1 x5_1).f0), .int .i64 ((rd_impl_Clue l1 x5_1).f1), .int .i64 ((rd_impl_Clue l1 x5_1).f2), .int .i64 ((rd_impl_Clue l1 x5_1).f3)]] (by rfl) rfl rfl sQ ?_
      with_reducible refine (laws_eqClue.calls ((rd_impl_Clue l0 x5_1).f0) ((rd_impl_Clue l0 x5_1).f1) ((rd_impl_Clue l0 x5_1).f2) ((rd_impl_Clue l0 x5_1).f3) ((rd_impl_Clue l1 x5_1).f0) ((rd_impl_Clue l1 x5_1).f1) ((rd_impl_Clue l1 x5_1).f2) ((rd_impl_Clue l1 x5_1).f3) false _ A7.out).mono ?_
      rintro e w12 ⟨rfl, hb⟩; refine ⟨_, rfl, ?_⟩; replace HB := tB HB hb; (try clear hb); (try clear hb2); (try clear hk); (try clear hi)
      refine hK.out _ _ ⟨(hC HB hw103_0 :), (hC HB hw103_1 :), (hC HB hw103_2 :), (hC HB hw103_3 :), (hC HB hw104_0 :), (hC HB hw104_1 :), (hC HB hw104_2 :), (hC HB hw104_3 :)⟩ (fun hHeld => ?_)
      clear hK K
      refine nU ?_
      refine pU 9 26 (bA 10 1023) HT_ ?_
      refine done_ (done_of HT_.out kR) ?_
      try go_wp2
      go_ret
      exact ⟨wQ, bQ⟩
    ·rw [if_neg c4] at H; have c4b0 := decide_eq_false c4; clear c4; obtain rfl := Option.some.inj H; go_wp2
     go_ret
     exact ⟨wQ, bQ⟩
 ·rw [if_neg c3] at H; have c3b0 : ((l0.length : Int) == (l1.length : Int)) = false := beq_eq_false_iff_ne.mpr c3; have c3b1 : ((l0.length : Int) != (l1.length : Int)) = true := bne_iff_ne.mpr c3; have c3b2 : (l0.length == l1.length) = false := by first | simpa using c3 | (simp at c3 ⊢; omega)
  obtain rfl := Option.some.inj H
  go_enter Tryd.func20, Tryd.ntmps20
  go_wp2
  go_ret
  exact ⟨wQ, bQ⟩

def laws_eqPuzzle.f (k : Nat) (a0_0 : Int) (l0_1 : List (S_impl_Clue)) (a1_0 : Int) (l1_1 : List (S_impl_Clue)) : Option (Bool) := if a0_0 = a1_0 then ((laws_eqClueS.f k l0_1 l1_1).bind fun t108 => (if t108 = true then (some true) else (some false))) else (some false)
theorem laws_eqPuzzle.mono : ∀ a0 a1 a2 a3 k, LeO (laws_eqPuzzle.f k a0 a1 a2 a3) (laws_eqPuzzle.f (k + 1) a0 a1 a2 a3) := by
 intro a0 a1 a2 a3 k
 unfold laws_eqPuzzle.f
 repeat' first | (with_reducible exact laws_eqClueS.mono _ _ _) | (with_reducible exact LeO.refl _) | (with_reducible exact LeO.none _) | (with_reducible refine LeO.ite ?_ ?_) | (with_reducible refine LeO.bind ?_ (fun _ => ?_)) | exact laws_eqClueS.mono _ _ _ | exact LeO.none _ | refine LeO.ite ?_ ?_ | refine LeO.bind ?_ (fun _ => ?_)
set_option maxHeartbeats 8000000 in
set_option maxRecDepth 100000 in
theorem laws_eqPuzzle.calls (k : Nat) (a0_0 : Int) (A0_1 : Option Addr) (c0_1 : Nat) (l0_1 : List (S_impl_Clue)) (a1_0 : Int) (A1_1 : Option Addr) (c1_1 : Nat) (l1_1 : List (S_impl_Clue)) (r : Bool) (w : World) (hr0_1 : Kd.C kd_impl_Clue w A0_1 l0_1.length l0_1) (hc0_1 : l0_1.length ≤ c0_1) (hr1_1 : Kd.C kd_impl_Clue w A1_1 l1_1.length l1_1) (hc1_1 : l1_1.length ≤ c1_1) (h : laws_eqPuzzle.f k a0_0 l0_1 a1_0 l1_1 = some r) :
  Calls Tryd.prog 7 #[.agg #[.int .i64 a0_0, .slice A0_1 l0_1.length c0_1], .agg #[.int .i64 a1_0, .slice A1_1 l1_1.length c1_1]] w fun e w' => e = .returned (.bool r) ∧ Below w.heap.size w w' := by
 have hu24 := Tryd.underlying24; have HR0_1 := aM hr0_1; have HC0_1 := aM hc0_1; clear hr0_1 hc0_1; have HR1_1 := aM hr1_1; have HC1_1 := aM hc1_1; clear hr1_1 hc1_1; have HB := aM (Below.refl w.heap.size w)
 unfold laws_eqPuzzle.f at h; have H := h; clear h
 by_cases c3 : a0_0 = a1_0
 ·rw [if_pos c3] at H; have c3b0 : (a0_0 == a1_0) = true := beq_iff_eq.mpr c3; have c3b1 : (a0_0 != a1_0) = false := bne_eq_false_iff_eq.mpr c3; clear c3; replace H := bS H; obtain ⟨t108, A4, H⟩ := H
  by_cases c5 : t108 = true
  ·subst c5; replace H := iT H; obtain rfl := Option.some.inj H
   go_enter Tryd.func7, Tryd.ntmps7
   go_wp2_with (first | ((with_reducible refine gate_dst (N := 2) rfl ?_); refine bV 2 (cs := #[.int .i64 a0_0, .slice A0_1 l0_1.length c0_1]) (t := 24) rfl rfl (by first | (go_simp; done) | (go_simp; rfl)) ?_; intro gb106 hg w6 hbox hb; have BK106 := hbox; have GW106 := gZ HB hg; have GE106 := gZ HB hg; replace HB := tB HB hb; clear hb hbox hg) | ((with_reducible refine gate_dst (N := 3) rfl ?_); refine bV 3 (cs := #[.int .i64 a1_0, .slice A1_1 l1_1.length c1_1]) (t := 24) rfl rfl (by first | (go_simp; done) | (go_simp; rfl)) ?_; intro gb107 hg w7 hbox hb; have BK107 := hbox; have GW107 := gZ HB hg; have GE107 := gZ HB hg; have NB106_107 := nG BK106 hg; have NB107_106 := nH BK106 hg; replace BK106 := bB BK106 hb; replace HB := tB HB hb; clear hb hbox hg; have hnb8 := NB106_107.out; have hnc8 := NB107_106.out; have hcz9_0 := vZ0 BK106; have hcz9_1 := vZ1 BK106; have hfz9_0 := kF BK106.out 0; have hfz9_1 := kF BK106.out 1; have hcz10_0 := vZ0 BK107; have hcz10_1 := vZ1 BK107; have hfz10_0 := kF BK107.out 0; have hfz10_1 := kF BK107.out 1) | ((with_reducible refine gC (f := 20) rfl ?_); refine goesL_ (some 14) rfl rfl Tryd.func20 kR rfl #[.slice A0_1 l0_1.length c0_1, .slice A1_1 l1_1.length c1_1] rfl sQ ?_; (with_reducible refine (laws_eqClueS.calls k _ _ l0_1 _ _ l1_1 true _ ?side1 ?side2 ?side3 ?side4 A4.out).mono ?_); (case side1 => repeat (first | exact (Kd.C_below HR0_1.out HB.out) | (with_reducible refine cA ?_ _) | (with_reducible refine cN ?_ _) | (with_reducible refine cD ?_))); (case side2 => exact HC0_1.out); (case side3 => repeat (first | exact (Kd.C_below HR1_1.out HB.out) | (with_reducible refine cA ?_ _) | (with_reducible refine cN ?_ _) | (with_reducible refine cD ?_))); (case side4 => exact HC1_1.out); rintro e w11 ⟨rfl, hb⟩; refine ⟨_, rfl, ?_⟩; replace BK106 := bB BK106 hb; replace BK107 := bB BK107 hb; replace HB := tB HB hb; (try clear hb); (try clear hb2); (try clear hk); (try clear hi)))
   go_ret
   exact ⟨wQ, bE⟩
  ·replace c5 := Bool.eq_false_iff.mpr c5; subst c5; replace H := iF H; obtain rfl := Option.some.inj H
   go_enter Tryd.func7, Tryd.ntmps7
   go_wp2_with (first | ((with_reducible refine gate_dst (N := 2) rfl ?_); refine bV 2 (cs := #[.int .i64 a0_0, .slice A0_1 l0_1.length c0_1]) (t := 24) rfl rfl (by first | (go_simp; done) | (go_simp; rfl)) ?_; intro gb106 hg w12 hbox hb; have BK106 := hbox; have GW106 := gZ HB hg; have GE106 := gZ HB hg; replace HB := tB HB hb; clear hb hbox hg) | ((with_reducible refine gate_dst (N := 3) rfl ?_); refine bV 3 (cs := #[.int .i64 a1_0, .slice A1_1 l1_1.length c1_1]) (t := 24) rfl rfl (by first | (go_simp; done) | (go_simp; rfl)) ?_; intro gb107 hg w13 hbox hb; have BK107 := hbox; have GW107 := gZ HB hg; have GE107 := gZ HB hg; have NB106_107 := nG BK106 hg; have NB107_106 := nH BK106 hg; replace BK106 := bB BK106 hb; replace HB := tB HB hb; clear hb hbox hg; have hnb14 := NB106_107.out; have hnc14 := NB107_106.out; have hcz15_0 := vZ0 BK106; have hcz15_1 := vZ1 BK106; have hfz15_0 := kF BK106.out 0; have hfz15_1 := kF BK106.out 1; have hcz16_0 := vZ0 BK107; have hcz16_1 := vZ1 BK107; have hfz16_0 := kF BK107.out 0; have hfz16_1 := kF BK107.out 1) | ((with_reducible refine gC (f := 20) rfl ?_); refine goesL_ (some 14) rfl rfl Tryd.func20 kR rfl #[.slice A0_1 l0_1.length c0_1, .slice A1_1 l1_1.length c1_1] rfl sQ ?_; (with_reducible refine (laws_eqClueS.calls k _ _ l0_1 _ _ l1_1 false _ ?side1 ?side2 ?side3 ?side4 A4.out).mono ?_); (case side1 => repeat (first | exact (Kd.C_below HR0_1.out HB.out) | (with_reducible refine cA ?_ _) | (with_reducible refine cN ?_ _) | (with_reducible refine cD ?_))); (case side2 => exact HC0_1.out); (case side3 => repeat (first | exact (Kd.C_below HR1_1.out HB.out) | (with_reducible refine cA ?_ _) | (with_reducible refine cN ?_ _) | (with_reducible refine cD ?_))); (case side4 => exact HC1_1.out); rintro e w17 ⟨rfl, hb⟩; refine ⟨_, rfl, ?_⟩; replace BK106 := bB BK106 hb; replace BK107 := bB BK107 hb; replace HB := tB HB hb; (try clear hb); (try clear hb2); (try clear hk); (try clear hi)))
   go_ret
   exact ⟨wQ, bE⟩
 ·rw [if_neg c3] at H; have c3b0 : (a0_0 == a1_0) = false := beq_eq_false_iff_ne.mpr c3; have c3b1 : (a0_0 != a1_0) = true := bne_iff_ne.mpr c3; obtain rfl := Option.some.inj H
  go_enter Tryd.func7, Tryd.ntmps7
  go_wp2_with (first | ((with_reducible refine gate_dst (N := 2) rfl ?_); refine bV 2 (cs := #[.int .i64 a0_0, .slice A0_1 l0_1.length c0_1]) (t := 24) rfl rfl (by first | (go_simp; done) | (go_simp; rfl)) ?_; intro gb106 hg w18 hbox hb; have BK106 := hbox; have GW106 := gZ HB hg; have GE106 := gZ HB hg; replace HB := tB HB hb; clear hb hbox hg) | ((with_reducible refine gate_dst (N := 3) rfl ?_); refine bV 3 (cs := #[.int .i64 a1_0, .slice A1_1 l1_1.length c1_1]) (t := 24) rfl rfl (by first | (go_simp; done) | (go_simp; rfl)) ?_; intro gb107 hg w19 hbox hb; have BK107 := hbox; have GW107 := gZ HB hg; have GE107 := gZ HB hg; have NB106_107 := nG BK106 hg; have NB107_106 := nH BK106 hg; replace BK106 := bB BK106 hb; replace HB := tB HB hb; clear hb hbox hg; have hnb20 := NB106_107.out; have hnc20 := NB107_106.out; have hcz21_0 := vZ0 BK106; have hcz21_1 := vZ1 BK106; have hfz21_0 := kF BK106.out 0; have hfz21_1 := kF BK106.out 1; have hcz22_0 := vZ0 BK107; have hcz22_1 := vZ1 BK107; have hfz22_0 := kF BK107.out 0; have hfz22_1 := kF BK107.out 1))
  go_ret
  exact ⟨wQ, bE⟩

def laws_szClueS.f (l0 : List (S_laws_Clue)) (a1 : Int) : Option (Int) := if (wrap64 (a1 - (l0.length : Int))) < 0 then (some (-1)) else (some (wrap64 (a1 - (l0.length : Int))))
set_option maxHeartbeats 8000000 in
set_option maxRecDepth 100000 in
theorem laws_szClueS.calls (A0 : Option Addr) (c0 : Nat) (l0 : List (S_laws_Clue)) (a1 : Int) (r : Int) (w : World) (hr0 : Kd.C kd_laws_Clue w A0 l0.length l0) (hc0 : l0.length ≤ c0) (h : laws_szClueS.f l0 a1 = some r) :
  Calls Tryd.prog 23 #[.slice A0 l0.length c0, .int .i64 a1] w fun e w' => e = .returned (.int .i64 r) ∧ Drawn0 w w' := by
 have HR0 := aM hr0; have HC0 := aM hc0; clear hr0 hc0
 unfold laws_szClueS.f at h; have H := h; clear h
 by_cases c3 : (wrap64 (a1 - (l0.length : Int))) < 0
 ·rw [if_pos c3] at H; have c3b0 := dE c3; clear c3; obtain rfl := Option.some.inj H
  go_enter Tryd.func23, Tryd.ntmps23
  go_wp2
  go_ret
  exact ⟨eQ, dQ⟩
 ·rw [if_neg c3] at H; have c3b0 := decide_eq_false c3; clear c3; obtain rfl := Option.some.inj H
  go_enter Tryd.func23, Tryd.ntmps23
  go_wp2
  go_ret
  exact ⟨eQ, dQ⟩

def laws_szPuzzle.f (a0_0 : Int) (l0_1 : List (S_laws_Clue)) (a1 : Int) : Option (Int) := (laws_szClueS.f l0_1 a1).bind fun t110 => (if t110 < 0 then (some (-1)) else (some t110))
set_option maxHeartbeats 8000000 in
set_option maxRecDepth 100000 in
theorem laws_szPuzzle.calls (a0_0 : Int) (A0_1 : Option Addr) (c0_1 : Nat) (l0_1 : List (S_laws_Clue)) (a1 : Int) (r : Int) (w : World) (hr0_1 : Kd.C kd_laws_Clue w A0_1 l0_1.length l0_1) (hc0_1 : l0_1.length ≤ c0_1) (h : laws_szPuzzle.f a0_0 l0_1 a1 = some r) :
  Calls Tryd.prog 10 #[.agg #[.int .i64 a0_0, .slice A0_1 l0_1.length c0_1], .int .i64 a1] w fun e w' => e = .returned (.int .i64 r) ∧ Below w.heap.size w w' := by
 have hu32 := Tryd.underlying32; have HR0_1 := aM hr0_1; have HC0_1 := aM hc0_1; clear hr0_1 hc0_1; have HB := aM (Below.refl w.heap.size w)
 unfold laws_szPuzzle.f at h; have H := h; clear h
 replace H := bS H; obtain ⟨t110, A3, H⟩ := H
 by_cases c4 : t110 < 0
 ·rw [if_pos c4] at H; have c4b0 := dE c4; clear c4; obtain rfl := Option.some.inj H
  go_enter Tryd.func10, Tryd.ntmps10
  go_wp2_with (first | ((with_reducible refine gate_dst (N := 2) rfl ?_); refine bV 2 (cs := #[.int .i64 a0_0, .slice A0_1 l0_1.length c0_1]) (t := 32) rfl rfl (by first | (go_simp; done) | (go_simp; rfl)) ?_; intro gb109 hg w5 hbox hb; have BK109 := hbox; have GW109 := gZ HB hg; have GE109 := gZ HB hg; replace HB := tB HB hb; clear hb hbox hg; have hcz6_0 := vZ0 BK109; have hcz6_1 := vZ1 BK109; have hfz6_0 := kF BK109.out 0; have hfz6_1 := kF BK109.out 1) | ((with_reducible refine gC (f := 23) rfl ?_); refine goesL_ (some 8) rfl rfl Tryd.func23 kR rfl #[.slice A0_1 l0_1.length c0_1, .int .i64 a1] rfl sQ ?_; (with_reducible refine (laws_szClueS.calls _ _ l0_1 a1 t110 _ ?side1 ?side2 A3.out).mono ?_); (case side1 => repeat (first | exact (Kd.C_below HR0_1.out HB.out) | (with_reducible refine cA ?_ _) | (with_reducible refine cN ?_ _) | (with_reducible refine cD ?_))); (case side2 => exact HC0_1.out); rintro e w' ⟨rfl, ⟨nd, rfl⟩⟩; refine ⟨_, rfl, ?_⟩))
  go_ret
  exact ⟨wQ, bE⟩
 ·rw [if_neg c4] at H; have c4b0 := decide_eq_false c4; clear c4; obtain rfl := Option.some.inj H
  go_enter Tryd.func10, Tryd.ntmps10
  go_wp2_with (first | ((with_reducible refine gate_dst (N := 2) rfl ?_); refine bV 2 (cs := #[.int .i64 a0_0, .slice A0_1 l0_1.length c0_1]) (t := 32) rfl rfl (by first | (go_simp; done) | (go_simp; rfl)) ?_; intro gb109 hg w7 hbox hb; have BK109 := hbox; have GW109 := gZ HB hg; have GE109 := gZ HB hg; replace HB := tB HB hb; clear hb hbox hg; have hcz8_0 := vZ0 BK109; have hcz8_1 := vZ1 BK109; have hfz8_0 := kF BK109.out 0; have hfz8_1 := kF BK109.out 1) | ((with_reducible refine gC (f := 23) rfl ?_); refine goesL_ (some 8) rfl rfl Tryd.func23 kR rfl #[.slice A0_1 l0_1.length c0_1, .int .i64 a1] rfl sQ ?_; (with_reducible refine (laws_szClueS.calls _ _ l0_1 a1 t110 _ ?side1 ?side2 A3.out).mono ?_); (case side1 => repeat (first | exact (Kd.C_below HR0_1.out HB.out) | (with_reducible refine cA ?_ _) | (with_reducible refine cN ?_ _) | (with_reducible refine cD ?_))); (case side2 => exact HC0_1.out); rintro e w' ⟨rfl, ⟨nd, rfl⟩⟩; refine ⟨_, rfl, ?_⟩))
  go_ret
  exact ⟨wQ, bE⟩

def spec_l1In.f (a0 : Int) (a1 : Int) (a2 : Int) : Option (Bool) := if a0 ≥ a1 then (some (decide (a0 ≤ a2))) else (some false)
set_option maxHeartbeats 8000000 in
set_option maxRecDepth 100000 in
theorem spec_l1In.calls (a0 : Int) (a1 : Int) (a2 : Int) (r : Bool) (w : World) (h : spec_l1In.f a0 a1 a2 = some r) :
  Calls Tryd.prog 44 #[.int .i64 a0, .int .i64 a1, .int .i64 a2] w fun e w' => e = .returned (.bool r) ∧ Drawn0 w w' := by
 unfold spec_l1In.f at h; have H := h; clear h
 by_cases c4 : a0 ≥ a1
 ·rw [if_pos c4] at H; have c4b0 := dE c4; clear c4; obtain rfl := Option.some.inj H
  go_enter Tryd.func44, Tryd.ntmps44
  go_wp2
  go_ret
  exact ⟨eQ, dQ⟩
 ·rw [if_neg c4] at H; have c4b0 := decide_eq_false c4; clear c4; obtain rfl := Option.some.inj H
  go_enter Tryd.func44, Tryd.ntmps44
  go_wp2
  go_ret
  exact ⟨eQ, dQ⟩

def spec_pzSide.f (a0 : Int) : Option (Bool) := (spec_l1In.f a0 1 12).bind fun t111 => (some t111)
set_option maxHeartbeats 8000000 in
set_option maxRecDepth 100000 in
theorem spec_pzSide.calls (a0 : Int) (r : Bool) (w : World) (h : spec_pzSide.f a0 = some r) :
  Calls Tryd.prog 40 #[.int .i64 a0] w fun e w' => e = .returned (.bool r) ∧ Drawn0 w w' := by
 unfold spec_pzSide.f at h; have H := h; clear h
 replace H := bS H; obtain ⟨t111, A2, H⟩ := H; obtain rfl := Option.some.inj H
 go_enter Tryd.func40, Tryd.ntmps40
 go_wp2_with (first | ((with_reducible refine gC (f := 44) rfl ?_); refine goesL_ (some 4) rfl rfl Tryd.func44 kR rfl #[.int .i64 a0, .int .i64 1, .int .i64 12] rfl sQ ?_; (with_reducible refine (spec_l1In.calls a0 1 12 t111 _ A2.out).mono ?_); rintro e w' ⟨rfl, ⟨nd, rfl⟩⟩; refine ⟨_, rfl, ?_⟩))
 go_ret
 exact ⟨eQ, dQ⟩

end Go.Proofs.YtoeclfihlhmnpaaDoor.X
