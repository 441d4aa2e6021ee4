-- thin
-- short
-- compact
import Derived.Test.YtoeclfihlhmnpaaXA
import Derived.Test.YtoeclfihlhmnpaaX0
import Derived.Test.YtoeclfihlhmnpaaX2
namespace Go.Proofs.Ytoeclfihlhmnpaa.X
open Go.RowKit Go.Proofs.Ytoeclfihlhmnpaa.XW Go.Proofs.YtoeclfihlhmnpaaW.PrintWords Go.Proofs.YtoeclfihlhmnpaaW.PrintLast Go.Proofs.YtoeclfihlhmnpaaW.PrintMore
attribute [local go_sem] max2_int min2_int max_two min_two max_three min_three max_four min_four   -- for this text's walks alone
set_option linter.unusedVariables false
set_option linter.unusedSimpArgs false

attribute [local go_sem high] eqA48
mutual
def laws_ePuzzle.j0 : Nat → Bool → Int → List (S_impl_Clue) → Int → List (S_impl_Clue) → Option (Bool)
 | 0, _, _, _, _, _ => none
 | k + 1, x19, x156000, x156001, x157000, x157001 => if x19 = true then (some false) else (laws_ePuzzle.l0 k (x156001.length : Int) 0 x156000 x156001 x157000 x157001)
def laws_ePuzzle.l0 : Nat → Int → Int → Int → List (S_impl_Clue) → Int → List (S_impl_Clue) → Option (Bool)
 | 0, _, _, _, _, _, _ => none
 | k + 1, x22, x23, x156000, x156001, x157000, x157001 => if x23 < x22 then (if 0 ≤ x23 then (if x23 < (x156001.length : Int) then (if x23 < (x157001.length : Int) then (if (!(((rd_impl_Clue x156001 x23).f0) == ((rd_impl_Clue x157001 x23).f0)) || (!(((rd_impl_Clue x156001 x23).f1) == ((rd_impl_Clue x157001 x23).f1)) || (!(((rd_impl_Clue x156001 x23).f2) == ((rd_impl_Clue x157001 x23).f2)) || (!(((rd_impl_Clue x156001 x23).f3) == ((rd_impl_Clue x157001 x23).f3)))))) = true then (some false) else (laws_ePuzzle.l0 k x22 (wrap64 (x23 + 1)) x156000 x156001 x157000 x157001)) else (none)) else (none)) else (none)) else (some true)
end
def laws_ePuzzle.f (k : Nat) (a0_0 : Int) (l0_1 : List (S_impl_Clue)) (a1_0 : Int) (l1_1 : List (S_impl_Clue)) : Option (Bool) := if a0_0 = a1_0 then (laws_ePuzzle.j0 k ((l0_1.length : Int) != (l1_1.length : Int)) a0_0 l0_1 a1_0 l1_1) else (laws_ePuzzle.j0 k true a0_0 l0_1 a1_0 l1_1)
theorem laws_ePuzzle.mono_l : ∀ k, (∀ y0 y1 y2 y3 y4, LeO (laws_ePuzzle.j0 k y0 y1 y2 y3 y4) (laws_ePuzzle.j0 (k + 1) y0 y1 y2 y3 y4)) ∧ (∀ y0 y1 y2 y3 y4 y5, LeO (laws_ePuzzle.l0 k y0 y1 y2 y3 y4 y5) (laws_ePuzzle.l0 (k + 1) y0 y1 y2 y3 y4 y5))
 | 0 => ⟨fun _ _ _ _ _ r h => by simp [laws_ePuzzle.j0] at h, fun _ _ _ _ _ _ r h => by simp [laws_ePuzzle.l0] at h⟩
 | k + 1 => by
  obtain ⟨ih0, ih1⟩ := laws_ePuzzle.mono_l k
  refine ⟨?_, ?_⟩ <;> intros <;> (first | unfold laws_ePuzzle.j0 | unfold laws_ePuzzle.l0) <;> repeat' first | (with_reducible exact ih0 _ _ _ _ _) | (with_reducible exact ih1 _ _ _ _ _ _) | (with_reducible exact LeO.refl _) | (with_reducible exact LeO.none _) | (with_reducible refine LeO.ite ?_ ?_) | (with_reducible refine LeO.bind ?_ (fun _ => ?_)) | exact ih0 _ _ _ _ _ | exact ih1 _ _ _ _ _ _ | exact LeO.none _ | refine LeO.ite ?_ ?_ | refine LeO.bind ?_ (fun _ => ?_)
theorem laws_ePuzzle.mono : ∀ a0 a1 a2 a3 k, LeO (laws_ePuzzle.f k a0 a1 a2 a3) (laws_ePuzzle.f (k + 1) a0 a1 a2 a3) := by
 intro a0 a1 a2 a3 k
 obtain ⟨ih0, ih1⟩ := laws_ePuzzle.mono_l k
 unfold laws_ePuzzle.f
 repeat' first | (with_reducible exact ih0 _ _ _ _ _) | (with_reducible exact ih1 _ _ _ _ _ _) | (with_reducible exact LeO.refl _) | (with_reducible exact LeO.none _) | (with_reducible refine LeO.ite ?_ ?_) | (with_reducible refine LeO.bind ?_ (fun _ => ?_)) | exact ih0 _ _ _ _ _ | exact ih1 _ _ _ _ _ _ | exact LeO.none _ | refine LeO.ite ?_ ?_ | refine LeO.bind ?_ (fun _ => ?_)
set_option maxHeartbeats 8000000 in
set_option maxRecDepth 100000 in
theorem laws_ePuzzle.calls (k : Nat) (a0_0 : Int) (A0_1 : Option Addr) (c0_1 : Nat) (l0_1 : List (S_impl_Clue)) (a1_0 : Int) (A1_1 : Option Addr) (c1_1 : Nat) (l1_1 : List (S_impl_Clue)) (r : Bool) (w : World) (hr0_1 : Kd.C kd_impl_Clue w A0_1 l0_1.length l0_1) (hc0_1 : l0_1.length ≤ c0_1) (hr1_1 : Kd.C kd_impl_Clue w A1_1 l1_1.length l1_1) (hc1_1 : l1_1.length ≤ c1_1) (h : laws_ePuzzle.f k a0_0 l0_1 a1_0 l1_1 = some r) :
  Calls Try.prog 18 #[.agg #[.int .i64 a0_0, .slice A0_1 l0_1.length c0_1], .agg #[.int .i64 a1_0, .slice A1_1 l1_1.length c1_1]] w fun e w' => e = .returned (.bool r) ∧ Below w.heap.size w w' := by
 have hu31 := Try.underlying31; have hu48 := Try.underlying48; have HR0_1 := aM hr0_1; have HC0_1 := aM hc0_1; clear hr0_1 hc0_1; have HR1_1 := aM hr1_1; have HC1_1 := aM hc1_1; clear hr1_1 hc1_1; have HB := aM (Below.refl w.heap.size w)
 unfold laws_ePuzzle.f at h; have H := h; clear h
 have HC3 := aM H; clear H
 go_enter Try.func18, Try.ntmps18
 go_upto_region 1 with (first | ((with_reducible refine gate_dst (N := 2) rfl ?_); (try (refine gate_guard (by rfl) ?_; dsimp only)); refine bV 2 (cs := #[.int .i64 a0_0, .slice A0_1 l0_1.length c0_1]) (t := 31) rfl rfl (by first | (go_simp; done) | (go_simp; rfl)) ?_; intro gb155 hg w4 hbox hb; have BK155 := hbox; have GW155 := gZ HB hg; have GE155 := gZ HB hg; replace HB := tB HB hb; clear hb hbox hg) | ((with_reducible refine gate_dst (N := 3) rfl ?_); (try (refine gate_guard (by rfl) ?_; dsimp only)); refine bV 3 (cs := #[.int .i64 a1_0, .slice A1_1 l1_1.length c1_1]) (t := 31) rfl rfl (by first | (go_simp; done) | (go_simp; rfl)) ?_; intro gb156 hg w5 hbox hb; have BK156 := hbox; have GW156 := gZ HB hg; have GE156 := gZ HB hg; have NB155_156 := nG BK155 hg; have NB156_155 := nH BK155 hg; replace BK155 := bB BK155 hb; replace HB := tB HB hb; clear hb hbox hg))
 repeat (go_quiet (first | ((with_reducible refine gate_dst (N := 2) rfl ?_); (try (refine gate_guard (by rfl) ?_; dsimp only)); refine bV 2 (cs := #[.int .i64 a0_0, .slice A0_1 l0_1.length c0_1]) (t := 31) rfl rfl (by first | (go_simp; done) | (go_simp; rfl)) ?_; intro gb155 hg w4 hbox hb; have n0_ := tB HB hb; have n1_ := hbox; have n2_ := gZ HB hg; have n3_ := gZ HB hg; clear HB; have HB := n0_; have BK155 := n1_; have GW155 := n2_; have GE155 := n3_; clear n0_ n1_ n2_ n3_; clear hb hbox hg) | ((with_reducible refine gate_dst (N := 3) rfl ?_); (try (refine gate_guard (by rfl) ?_; dsimp only)); refine bV 3 (cs := #[.int .i64 a1_0, .slice A1_1 l1_1.length c1_1]) (t := 31) rfl rfl (by first | (go_simp; done) | (go_simp; rfl)) ?_; intro gb156 hg w5 hbox hb; have n0_ := bB BK155 hb; have n1_ := tB HB hb; have n2_ := hbox; have n3_ := gZ HB hg; have n4_ := gZ HB hg; have n5_ := nG BK155 hg; have n6_ := nH BK155 hg; clear BK155; clear HB; have BK155 := n0_; have HB := n1_; have BK156 := n2_; have GW156 := n3_; have GE156 := n4_; have NB155_156 := n5_; have NB156_155 := n6_; clear n0_ n1_ n2_ n3_ n4_ n5_ n6_; clear hb hbox hg)); go_upto_region 1 with (first | ((with_reducible refine gate_dst (N := 2) rfl ?_); (try (refine gate_guard (by rfl) ?_; dsimp only)); refine bV 2 (cs := #[.int .i64 a0_0, .slice A0_1 l0_1.length c0_1]) (t := 31) rfl rfl (by first | (go_simp; done) | (go_simp; rfl)) ?_; intro gb155 hg w4 hbox hb; have n0_ := tB HB hb; have n1_ := hbox; have n2_ := gZ HB hg; have n3_ := gZ HB hg; clear HB; have HB := n0_; have BK155 := n1_; have GW155 := n2_; have GE155 := n3_; clear n0_ n1_ n2_ n3_; clear hb hbox hg) | ((with_reducible refine gate_dst (N := 3) rfl ?_); (try (refine gate_guard (by rfl) ?_; dsimp only)); refine bV 3 (cs := #[.int .i64 a1_0, .slice A1_1 l1_1.length c1_1]) (t := 31) rfl rfl (by first | (go_simp; done) | (go_simp; rfl)) ?_; intro gb156 hg w5 hbox hb; have n0_ := bB BK155 hb; have n1_ := tB HB hb; have n2_ := hbox; have n3_ := gZ HB hg; have n4_ := gZ HB hg; have n5_ := nG BK155 hg; have n6_ := nH BK155 hg; clear BK155; clear HB; have BK155 := n0_; have HB := n1_; have BK156 := n2_; have GW156 := n3_; have GE156 := n4_; have NB155_156 := n5_; have NB156_155 := n6_; clear n0_ n1_ n2_ n3_ n4_ n5_ n6_; clear hb hbox hg)))
 (try simp only [Act.put, sI, sZ, sS])
 go_cut [19] (fun v19 wc => ∃ (kq : Nat) (x19_2 : Bool), v19 = .bool x19_2 ∧ Aside0 (laws_ePuzzle.j0 kq x19_2 a0_0 l0_1 a1_0 l1_1 = some r) ∧ Aside0 (kq ≤ k) ∧ Aside0 (wc.heap[gb155]? = some (.cells #[.int .i64 a0_0, (.slice A0_1 l0_1.length c0_1)] 31 (0, 0))) ∧ Aside0 (wc.heap[gb156]? = some (.cells #[.int .i64 a1_0, (.slice A1_1 l1_1.length c1_1)] 31 (0, 0))) ∧ Aside0 (Below w.heap.size w wc))
 case first =>
  have H := HC3.out; clear HC3
  by_cases c6 : a0_0 = a1_0
  ·rw [if_pos c6] at H; have c6b0 : (a0_0 == a1_0) = true := beq_iff_eq.mpr c6; have c6b1 : (a0_0 != a1_0) = false := bne_eq_false_iff_eq.mpr c6; clear c6
   (first | rw [c6b0] | (simp only [i64_w, i32_w]; rw [c6b0]) | skip)
   have H' := aM H; clear H; have hnb7 := NB155_156.out; have hnc7 := NB156_155.out; have hcz8_0 := vZ0 BK155; have hcz8_1 := vZ1 BK155; have hfz8_0 := kF BK155.out 0; have hfz8_1 := kF BK155.out 1; have hcz9_0 := vZ0 BK156; have hcz9_1 := vZ1 BK156; have hfz9_0 := kF BK156.out 0; have hfz9_1 := kF BK156.out 1; go_wp2
   repeat (go_quiet (fail); try go_wp2)
   go_meet
   case rel => exact ⟨_, (((l0_1.length : Int) != (l1_1.length : Int))), eQ, H', ⟨by first | omega | exact Nat.le_refl _⟩, ⟨gQ BK155⟩, ⟨gQ BK156⟩, ⟨bE⟩⟩
  ·rw [if_neg c6] at H; have c6b0 : (a0_0 == a1_0) = false := beq_eq_false_iff_ne.mpr c6; have c6b1 : (a0_0 != a1_0) = true := bne_iff_ne.mpr c6
   (first | rw [c6b0] | (simp only [i64_w, i32_w]; rw [c6b0]) | skip)
   have H' := aM H; clear H; have hnb10 := NB155_156.out; have hnc10 := NB156_155.out; have hcz11_0 := vZ0 BK155; have hcz11_1 := vZ1 BK155; have hfz11_0 := kF BK155.out 0; have hfz11_1 := kF BK155.out 1; have hcz12_0 := vZ0 BK156; have hcz12_1 := vZ1 BK156; have hfz12_0 := kF BK156.out 0; have hfz12_1 := kF BK156.out 1; go_wp2
   repeat (go_quiet (fail); try go_wp2)
   go_meet
   case rel => exact ⟨_, (true), eQ, H', ⟨by first | omega | exact Nat.le_refl _⟩, ⟨gQ BK155⟩, ⟨gQ BK156⟩, ⟨bE⟩⟩
 case rest =>
  clear HC3; obtain ⟨kq, x19_2, rfl, HA, HJ2, BK155, BK156, HB⟩ := hcut
  cases kq with
  | zero => exact absurd HA.out (by simp [laws_ePuzzle.j0])
  | succ kj2 =>
   have H := HA.out; clear HA
   simp only [laws_ePuzzle.j0] at H
   by_cases c13 : x19_2 = true
   ·subst c13; replace H := iT H; obtain rfl := Option.some.inj H; go_wp2
    repeat (go_quiet (fail); try go_wp2)
    go_ret
    exact ⟨wQ, bE⟩
   ·replace c13 := Bool.eq_false_iff.mpr c13; subst c13; replace H := iF H; have H' := aM H; clear H; have hnb14 := NB155_156.out; have hnc14 := NB156_155.out; have hcz15_0 : wc.cell? ⟨gb155, 0, none⟩ = some (.int .i64 a0_0) := vZ0 BK155; have hcz15_1 : wc.cell? ⟨gb155, 1, none⟩ = some (.slice A0_1 l0_1.length c0_1) := vZ1 BK155; have hfz15_0 := kF BK155.out 0; have hfz15_1 := kF BK155.out 1; go_wp2
    repeat (go_quiet (fail); try go_wp2)
    go_loopg [23] kj2 (fun kq v23 w' => ∃ (x23_2 : Int), v23 = .int .i64 x23_2 ∧ Aside0 (laws_ePuzzle.l0 kq (l0_1.length : Int) x23_2 a0_0 l0_1 a1_0 l1_1 = some r) ∧ Aside0 (kq ≤ kj2) ∧ Aside0 (w'.heap[gb155]? = some (.cells #[.int .i64 a0_0, (.slice A0_1 l0_1.length c0_1)] 31 (0, 0))) ∧ Aside0 (w'.heap[gb156]? = some (.cells #[.int .i64 a1_0, (.slice A1_1 l1_1.length c1_1)] 31 (0, 0))) ∧ Aside0 (Below w.heap.size w w'))
    case atStart => exact ⟨(0), eQ, H', ⟨Nat.le_refl _⟩, ⟨gQ BK155⟩, ⟨gQ BK156⟩, ⟨bE⟩⟩
    case round =>
     clear H'; (try clear c13); (try clear hcz15_0); (try clear hcz15_1); (try clear hfz15_0); (try clear hfz15_1); obtain ⟨x23_2, rfl, HA, HK2, BK155, BK156, HB⟩ := hrel
     cases gk with
     | zero => exact absurd HA.out (by simp [laws_ePuzzle.l0])
     | succ k2 =>
      have H := HA.out; clear HA
      simp only [laws_ePuzzle.l0] at H
      by_cases c16 : x23_2 < (l0_1.length : Int)
      ·rw [if_pos c16] at H; have c16b0 := dE c16; clear c16; replace H := iD H; obtain ⟨c17b0, H⟩ := H; replace H := iD H; obtain ⟨c18b0, H⟩ := H; replace H := iD H; obtain ⟨c19b0, H⟩ := H
       by_cases c20 : (!(((rd_impl_Clue l0_1 x23_2).f0) == ((rd_impl_Clue l1_1 x23_2).f0)) || (!(((rd_impl_Clue l0_1 x23_2).f1) == ((rd_impl_Clue l1_1 x23_2).f1)) || (!(((rd_impl_Clue l0_1 x23_2).f2) == ((rd_impl_Clue l1_1 x23_2).f2)) || (!(((rd_impl_Clue l0_1 x23_2).f3) == ((rd_impl_Clue l1_1 x23_2).f3)))))) = true
       ·rw [if_pos c20] at H; have c20b0 := c20; clear c20; obtain rfl := Option.some.inj H; have hnb21 := NB155_156.out; have hnc21 := NB156_155.out; have hcz22_0 : wr.cell? ⟨gb155, 0, none⟩ = some (.int .i64 a0_0) := vZ0 BK155; have hcz22_1 : wr.cell? ⟨gb155, 1, none⟩ = some (.slice A0_1 l0_1.length c0_1) := vZ1 BK155; have hfz22_0 := kF BK155.out 0; have hfz22_1 := kF BK155.out 1; have p157 : 0 ≤ (x23_2 : Int) := dT aQ; have q157 : x23_2 < (l0_1.length : Int) := dT aQ; obtain ⟨ad157, e157, hx157_0, hx157_1, hx157_2, hx157_3⟩ := at_impl_Clue HR0_1.out x23_2 p157 q157
        cases e157
        replace hx157_0 := hC HB hx157_0; replace hx157_1 := hC HB hx157_1; replace hx157_2 := hC HB hx157_2; replace hx157_3 := hC HB hx157_3; replace p157 := eq_true p157; replace q157 := eq_true q157; have hcz23_0 : wr.cell? ⟨gb156, 0, none⟩ = some (.int .i64 a1_0) := vZ0 BK156; have hcz23_1 : wr.cell? ⟨gb156, 1, none⟩ = some (.slice A1_1 l1_1.length c1_1) := vZ1 BK156; have hfz23_0 := kF BK156.out 0; have hfz23_1 := kF BK156.out 1; have p158 : 0 ≤ (x23_2 : Int) := dT aQ; have q158 : x23_2 < (l1_1.length : Int) := dT aQ; obtain ⟨ad158, e158, hx158_0, hx158_1, hx158_2, hx158_3⟩ := at_impl_Clue HR1_1.out x23_2 p158 q158
        cases e158
        replace hx158_0 := hC HB hx158_0; replace hx158_1 := hC HB hx158_1; replace hx158_2 := hC HB hx158_2; replace hx158_3 := hC HB hx158_3; replace p158 := eq_true p158; replace q158 := eq_true q158; go_wp2
        repeat (go_quiet (fail); try go_wp2)
        go_ret
        exact ⟨wQ, bE⟩
       ·rw [if_neg c20] at H; have c20b0 : (!(((rd_impl_Clue l0_1 x23_2).f0) == ((rd_impl_Clue l1_1 x23_2).f0)) || (!(((rd_impl_Clue l0_1 x23_2).f1) == ((rd_impl_Clue l1_1 x23_2).f1)) || (!(((rd_impl_Clue l0_1 x23_2).f2) == ((rd_impl_Clue l1_1 x23_2).f2)) || (!(((rd_impl_Clue l0_1 x23_2).f3) == ((rd_impl_Clue l1_1 x23_2).f3)))))) = false := by simpa using c20
        clear c20; have H' := aM H; clear H; have hnb24 := NB155_156.out; have hnc24 := NB156_155.out; have hcz25_0 : wr.cell? ⟨gb155, 0, none⟩ = some (.int .i64 a0_0) := vZ0 BK155; have hcz25_1 : wr.cell? ⟨gb155, 1, none⟩ = some (.slice A0_1 l0_1.length c0_1) := vZ1 BK155; have hfz25_0 := kF BK155.out 0; have hfz25_1 := kF BK155.out 1; have p157 : 0 ≤ (x23_2 : Int) := dT aQ; have q157 : x23_2 < (l0_1.length : Int) := dT aQ; obtain ⟨ad157, e157, hx157_0, hx157_1, hx157_2, hx157_3⟩ := at_impl_Clue HR0_1.out x23_2 p157 q157
        cases e157
        replace hx157_0 := hC HB hx157_0; replace hx157_1 := hC HB hx157_1; replace hx157_2 := hC HB hx157_2; replace hx157_3 := hC HB hx157_3; replace p157 := eq_true p157; replace q157 := eq_true q157; have hcz26_0 : wr.cell? ⟨gb156, 0, none⟩ = some (.int .i64 a1_0) := vZ0 BK156; have hcz26_1 : wr.cell? ⟨gb156, 1, none⟩ = some (.slice A1_1 l1_1.length c1_1) := vZ1 BK156; have hfz26_0 := kF BK156.out 0; have hfz26_1 := kF BK156.out 1; have p158 : 0 ≤ (x23_2 : Int) := dT aQ; have q158 : x23_2 < (l1_1.length : Int) := dT aQ; obtain ⟨ad158, e158, hx158_0, hx158_1, hx158_2, hx158_3⟩ := at_impl_Clue HR1_1.out x23_2 p158 q158
        cases e158
        replace hx158_0 := hC HB hx158_0; replace hx158_1 := hC HB hx158_1; replace hx158_2 := hC HB hx158_2; replace hx158_3 := hC HB hx158_3; replace p158 := eq_true p158; replace q158 := eq_true q158; go_wp2
        repeat (go_quiet (fail); try go_wp2)
        go_roundg k2
        case measure => have := HJ2.out; have := HK2.out; omega
        case rel => exact ⟨(wrap64 (x23_2 + 1)), eQ, H', ⟨by have := HJ2.out; have := HK2.out; omega⟩, ⟨gQ BK155⟩, ⟨gQ BK156⟩, ⟨bE⟩⟩
      ·rw [if_neg c16] at H; have c16b0 := decide_eq_false c16; clear c16; obtain rfl := Option.some.inj H; go_wp2
       repeat (go_quiet (fail); try go_wp2)
       go_ret
       exact ⟨wQ, bE⟩

-- NOT PRINTED: function 95 (slices_IndexFunc_impl_Clue)

-- NOT PRINTED: function 63 (slices_ContainsFunc_impl_Clue)

end Go.Proofs.Ytoeclfihlhmnpaa.X
