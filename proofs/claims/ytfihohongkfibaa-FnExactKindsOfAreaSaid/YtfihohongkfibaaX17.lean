-- thin
-- short
-- compact
import Derived.Test.YtfihohongkfibaaXA
import Derived.Test.YtfihohongkfibaaX0
import Derived.Test.YtfihohongkfibaaX10
import Derived.Test.YtfihohongkfibaaX13
import Derived.Test.YtfihohongkfibaaX15
import Derived.Test.YtfihohongkfibaaX16
namespace Go.Proofs.Ytfihohongkfibaa.X
open Go.RowKit Go.Proofs.Ytfihohongkfibaa.XW Go.Proofs.YtfihohongkfibaaW.PrintWords Go.Proofs.YtfihohongkfibaaW.PrintLast Go.Proofs.YtfihohongkfibaaW.PrintMore
attribute [local go_sem] max2_int min2_int max_two min_two max_three min_three max_four min_four   -- for this text's walks alone
set_option linter.unusedVariables false
set_option linter.unusedSimpArgs false

def slices_CompareFunc_impl_Peg_at_impl_comparePegs.l0 : Nat → List (S_impl_Peg) → List (S_impl_Peg) → List (S_impl_Peg) → Int → Int → Option (Int)
 | 0, _, _, _, _, _ => none
 | k + 1, x0, x1, x11, x12, x13 => if x13 < x12 then (if 0 ≤ x13 then (if x13 < (x11.length : Int) then (if x13 ≥ (x1.length : Int) then (some 1) else (if x13 < (x1.length : Int) then ((impl_comparePegs.f k ((rd_impl_Peg x11 x13).f0) ((rd_impl_Peg x11 x13).f1) ((rd_impl_Peg x1 x13).f0) ((rd_impl_Peg x1 x13).f1)).bind fun t372 => (if t372 = 0 then (slices_CompareFunc_impl_Peg_at_impl_comparePegs.l0 k x0 x1 x11 x12 (wrap64 (x13 + 1))) else (some t372))) else (none))) else (none)) else (none)) else (if (x0.length : Int) < (x1.length : Int) then (some (-1)) else (some 0))
def slices_CompareFunc_impl_Peg_at_impl_comparePegs.f (k : Nat) (l0 : List (S_impl_Peg)) (l1 : List (S_impl_Peg)) : Option (Int) := slices_CompareFunc_impl_Peg_at_impl_comparePegs.l0 k l0 l1 l0 (l0.length : Int) 0
theorem slices_CompareFunc_impl_Peg_at_impl_comparePegs.mono_l : ∀ k, (∀ y0 y1 y2 y3 y4, LeO (slices_CompareFunc_impl_Peg_at_impl_comparePegs.l0 k y0 y1 y2 y3 y4) (slices_CompareFunc_impl_Peg_at_impl_comparePegs.l0 (k + 1) y0 y1 y2 y3 y4))
 | 0 => fun _ _ _ _ _ r h => by simp [slices_CompareFunc_impl_Peg_at_impl_comparePegs.l0] at h
 | k + 1 => by
  have ih0 := slices_CompareFunc_impl_Peg_at_impl_comparePegs.mono_l k
  ·intro y0 y1 y2 y3 y4
   unfold slices_CompareFunc_impl_Peg_at_impl_comparePegs.l0
   repeat' first
   | (with_reducible exact ih0 _ _ _ _ _)
   | (with_reducible exact impl_comparePegs.mono _ _ _ _ _)
   | (with_reducible exact LeO.refl _)
   | (with_reducible exact LeO.none _)
   | (with_reducible refine LeO.ite ?_ ?_)
   | (with_reducible refine LeO.bind ?_ (fun _ => ?_))
   | exact ih0 _ _ _ _ _
   | exact impl_comparePegs.mono _ _ _ _ _
   | exact LeO.none _
   | refine LeO.ite ?_ ?_
   | refine LeO.bind ?_ (fun _ => ?_)
theorem slices_CompareFunc_impl_Peg_at_impl_comparePegs.mono : ∀ a0 a1 k, LeO (slices_CompareFunc_impl_Peg_at_impl_comparePegs.f k a0 a1) (slices_CompareFunc_impl_Peg_at_impl_comparePegs.f (k + 1) a0 a1) := by
 intro a0 a1 k
 have ih0 := slices_CompareFunc_impl_Peg_at_impl_comparePegs.mono_l k
 unfold slices_CompareFunc_impl_Peg_at_impl_comparePegs.f
 repeat' first | (with_reducible exact ih0 _ _ _ _ _) | (with_reducible exact impl_comparePegs.mono _ _ _ _ _) | (with_reducible exact LeO.refl _) | (with_reducible exact LeO.none _) | (with_reducible refine LeO.ite ?_ ?_) | (with_reducible refine LeO.bind ?_ (fun _ => ?_)) | exact ih0 _ _ _ _ _ | exact impl_comparePegs.mono _ _ _ _ _ | exact LeO.none _ | refine LeO.ite ?_ ?_ | refine LeO.bind ?_ (fun _ => ?_)
set_option maxHeartbeats 8000000 in
set_option maxRecDepth 100000 in
theorem slices_CompareFunc_impl_Peg_at_impl_comparePegs.calls (k : Nat) (A0 : Option Addr) (c0 : Nat) (l0 : List (S_impl_Peg)) (A1 : Option Addr) (c1 : Nat) (l1 : List (S_impl_Peg)) (r : Int) (w : World) (hr0 : Kd.C kd_impl_Peg w A0 l0.length l0) (hc0 : l0.length ≤ c0) (hr1 : Kd.C kd_impl_Peg w A1 l1.length l1) (hc1 : l1.length ≤ c1) (h : slices_CompareFunc_impl_Peg_at_impl_comparePegs.f k l0 l1 = some r) :
  Calls Try.prog 143 #[.slice A0 l0.length c0, .slice A1 l1.length c1, .func (.func 144) #[] #[]] w fun e w' => e = .returned (.int .i64 r) ∧ Below w.heap.size w w' := by
 have hu50 := Try.underlying50; have HR0 := aM hr0; have HC0 := aM hc0; clear hr0 hc0; have HR1 := aM hr1; have HC1 := aM hc1; clear hr1 hc1; have HB := aM (Below.refl w.heap.size w)
 unfold slices_CompareFunc_impl_Peg_at_impl_comparePegs.f at h; have H := h; clear h
 have H' := aM H; clear H
 go_enter Try.func143, Try.ntmps143
 go_wp2
 go_loopg [13] k (fun kq v13 w' => ∃ (x13_1 : Int), v13 = .int .i64 x13_1 ∧ Aside0 (slices_CompareFunc_impl_Peg_at_impl_comparePegs.l0 kq l0 l1 l0 (l0.length : Int) x13_1 = some r) ∧ Aside0 (kq ≤ k) ∧ Aside0 (Below w.heap.size w w'))
 case atStart => exact ⟨(0), eQ, H', ⟨Nat.le_refl _⟩, ⟨bQ⟩⟩
 case round =>
  clear H'; (try clear c1); obtain ⟨x13_1, rfl, HA, HK1, HB⟩ := hrel
  cases gk with
  | zero => exact absurd HA.out (by simp [slices_CompareFunc_impl_Peg_at_impl_comparePegs.l0])
  | succ k1 =>
   have H := HA.out; clear HA
   simp only [slices_CompareFunc_impl_Peg_at_impl_comparePegs.l0] at H
   by_cases c3 : x13_1 < (l0.length : Int)
   ·rw [if_pos c3] at H; have c3b0 := dE c3; clear c3; replace H := iD H; obtain ⟨c4b0, H⟩ := H; replace H := iD H; obtain ⟨c5b0, H⟩ := H
    by_cases c6 : x13_1 ≥ (l1.length : Int)
    ·rw [if_pos c6] at H; have c6b0 := dE c6; clear c6; obtain rfl := Option.some.inj H; have p368 : 0 ≤ (x13_1 : Int) := dT aQ; have q368 : x13_1 < (l0.length : Int) := dT aQ; obtain ⟨ad368, e368, hx368_0, hx368_1⟩ := at_impl_Peg HR0.out x13_1 p368 q368
     cases e368
     replace hx368_0 := hC HB hx368_0; replace hx368_1 := hC HB hx368_1; replace p368 := eq_true p368; replace q368 := eq_true q368
     go_wp2_with (first | ((with_reducible refine gate_dst (N := 8) rfl ?_); refine bV 8 (cs := #[.int .i64 0, .int .i64 0]) (t := 50) rfl rfl (by first | (go_simp; done) | (go_simp; rfl)) ?_; intro gb369 hg w7 hbox hb; have BK369 := hbox; have GW369 := gZ HB hg; have GE369 := gZ HB hg; replace HB := tB HB hb; clear hb hbox hg; have hcz8_0 := vZ0 BK369; have hcz8_1 := vZ1 BK369; have hfz8_0 := kF BK369.out 0; have hfz8_1 := kF BK369.out 1))
     go_ret
     exact ⟨wQ, bE⟩
    ·rw [if_neg c6] at H; have c6b0 := decide_eq_false c6; clear c6; replace H := iD H; obtain ⟨c9b0, H⟩ := H; replace H := bS H; obtain ⟨t372, A10, H⟩ := H
     by_cases c11 : t372 = 0
     ·rw [if_pos c11] at H; have c11b0 : (t372 == 0) = true := beq_iff_eq.mpr c11; have c11b1 : (t372 != 0) = false := bne_eq_false_iff_eq.mpr c11; clear c11; have H' := aM H; clear H; have p368 : 0 ≤ (x13_1 : Int) := dT aQ; have q368 : x13_1 < (l0.length : Int) := dT aQ; obtain ⟨ad368, e368, hx368_0, hx368_1⟩ := at_impl_Peg HR0.out x13_1 p368 q368
      cases e368
      replace hx368_0 := hC HB hx368_0; replace hx368_1 := hC HB hx368_1; replace p368 := eq_true p368; replace q368 := eq_true q368
      go_wp2_with (first | ((with_reducible refine gate_dst (N := 8) rfl ?_); refine bV 8 (cs := #[.int .i64 0, .int .i64 0]) (t := 50) rfl rfl (by first | (go_simp; done) | (go_simp; rfl)) ?_; intro gb369 hg w12 hbox hb; have BK369 := hbox; have GW369 := gZ HB hg; have GE369 := gZ HB hg; replace HB := tB HB hb; clear hb hbox hg; have hcz13_0 := vZ0 BK369; have hcz13_1 := vZ1 BK369; have hfz13_0 := kF BK369.out 0; have hfz13_1 := kF BK369.out 1; have p370 : 0 ≤ (x13_1 : Int) := dT aQ; have q370 : x13_1 < (l1.length : Int) := dT aQ; obtain ⟨ad370, e370, hx370_0, hx370_1⟩ := at_impl_Peg HR1.out x13_1 p370 q370; cases e370; have hn370_0 : ad370.block ≠ gb369 := nN (nL (by have := wB _ _ hx370_0; first | rwa [add_block] at this | exact this) GW369.out); have hn370_1 : ad370.block ≠ gb369 := nN (nL (by have := wB _ _ hx370_0; first | rwa [add_block] at this | exact this) GW369.out); replace hx370_0 := hC HB hx370_0; replace hx370_1 := hC HB hx370_1; replace hx370_0 := (cell_far (p := ⟨gb369, 0, none⟩) (by first | (rw [add_block]; exact hn370_0) | (show (Addr.add _ _).block ≠ _; rw [add_block]; exact hn370_0) | exact hn370_0) (.int .i64 ((rd_impl_Peg l0 x13_1).f0))).trans hx370_0; replace hx370_1 := (cell_far (p := ⟨gb369, 0, none⟩) (by first | (rw [add_block]; exact hn370_0) | (show (Addr.add _ _).block ≠ _; rw [add_block]; exact hn370_0) | exact hn370_0) (.int .i64 ((rd_impl_Peg l0 x13_1).f0))).trans hx370_1; replace hx370_0 := (cell_far (p := ⟨gb369, 1, none⟩) (by first | (rw [add_block]; exact hn370_1) | (show (Addr.add _ _).block ≠ _; rw [add_block]; exact hn370_1) | exact hn370_1) (.int .i64 ((rd_impl_Peg l0 x13_1).f1))).trans hx370_0; replace hx370_1 := (cell_far (p := ⟨gb369, 1, none⟩) (by first | (rw [add_block]; exact hn370_1) | (show (Addr.add _ _).block ≠ _; rw [add_block]; exact hn370_1) | exact hn370_1) (.int .i64 ((rd_impl_Peg l0 x13_1).f1))).trans hx370_1; clear hn370_0; clear hn370_1; replace p370 := eq_true p370; replace q370 := eq_true q370) | ((with_reducible refine gate_dst (N := 9) rfl ?_); refine bV 9 (cs := #[.int .i64 0, .int .i64 0]) (t := 50) rfl rfl (by first | (go_simp; done) | (go_simp; rfl)) ?_; intro gb371 hg w14 hbox hb; have BK371 := hbox; have GW371 := gZ HB hg; have GE371 := gZ HB hg; have NB369_371 := aM ((by rw [hg]; exact nN (blk_lt (g := gb369) (o := .cells #[.int .i64 ((rd_impl_Peg l0 x13_1).f0), .int .i64 ((rd_impl_Peg l0 x13_1).f1)] 50 (0, 0)) (fQ BK369)) : gb369 ≠ gb371)); have NB371_369 := aM ((by rw [hg]; exact Nat.ne_of_gt (blk_lt (g := gb369) (o := .cells #[.int .i64 ((rd_impl_Peg l0 x13_1).f0), .int .i64 ((rd_impl_Peg l0 x13_1).f1)] 50 (0, 0)) (fQ BK369)) : gb371 ≠ gb369)); replace BK369 := aM (blk_below (g := gb369) (o := .cells #[.int .i64 ((rd_impl_Peg l0 x13_1).f0), .int .i64 ((rd_impl_Peg l0 x13_1).f1)] 50 (0, 0)) (fQ BK369) hb); replace HB := tB HB hb; clear hb hbox hg; have hnb15 := NB371_369.out; have hnc15 := NB369_371.out; have hcz16_0 := vZ0 BK371; have hcz16_1 := vZ1 BK371; have hfz16_0 := kF BK371.out 0; have hfz16_1 := kF BK371.out 1; have hcz17_0 := vZ0 BK369; have hcz17_1 := vZ1 BK369; have hfz17_0 := kF BK369.out 0; have hfz17_1 := kF BK369.out 1) | ((with_reducible refine gate_tmp rfl ?_); refine goesLT_ (some 29) rfl rfl Try.func144 kR rfl #[.agg #[.int .i64 ((rd_impl_Peg l0 x13_1).f0), .int .i64 ((rd_impl_Peg l0 x13_1).f1)], .agg #[.int .i64 ((rd_impl_Peg l1 x13_1).f0), .int .i64 ((rd_impl_Peg l1 x13_1).f1)]] rfl (by first | rfl | (simp [Act.eval]; done)) sQ ?_; (with_reducible refine (impl_comparePegs.calls k1 ((rd_impl_Peg l0 x13_1).f0) ((rd_impl_Peg l0 x13_1).f1) ((rd_impl_Peg l1 x13_1).f0) ((rd_impl_Peg l1 x13_1).f1) t372 _ A10.out).mono ?_); rintro e w18 ⟨rfl, hb⟩; refine ⟨_, rfl, ?_⟩; replace BK369 := aM (blk_below (g := gb369) (o := .cells #[.int .i64 ((rd_impl_Peg l0 x13_1).f0), .int .i64 ((rd_impl_Peg l0 x13_1).f1)] 50 (0, 0)) (fQ BK369) hb); replace BK371 := aM (blk_below (g := gb371) (o := .cells #[.int .i64 ((rd_impl_Peg l1 x13_1).f0), .int .i64 ((rd_impl_Peg l1 x13_1).f1)] 50 (0, 0)) (fQ BK371) hb); replace HB := tB HB hb; (try clear hb); (try clear hb2); (try clear hk); (try clear hi)))
      go_roundg k1
      case measure => have := HK1.out; omega
      case rel => exact ⟨(wrap64 (x13_1 + 1)), eQ, H', ⟨by have := HK1.out; omega⟩, ⟨bE⟩⟩
     ·rw [if_neg c11] at H; have c11b0 : (t372 == 0) = false := beq_eq_false_iff_ne.mpr c11; have c11b1 : (t372 != 0) = true := bne_iff_ne.mpr c11; obtain rfl := Option.some.inj H; have p368 : 0 ≤ (x13_1 : Int) := dT aQ; have q368 : x13_1 < (l0.length : Int) := dT aQ; obtain ⟨ad368, e368, hx368_0, hx368_1⟩ := at_impl_Peg HR0.out x13_1 p368 q368
      cases e368
      replace hx368_0 := hC HB hx368_0; replace hx368_1 := hC HB hx368_1; replace p368 := eq_true p368; replace q368 := eq_true q368
      go_wp2_with (first | ((with_reducible refine gate_dst (N := 8) rfl ?_); refine bV 8 (cs := #[.int .i64 0, .int .i64 0]) (t := 50) rfl rfl (by first | (go_simp; done) | (go_simp; rfl)) ?_; intro gb369 hg w19 hbox hb; have BK369 := hbox; have GW369 := gZ HB hg; have GE369 := gZ HB hg; replace HB := tB HB hb; clear hb hbox hg; have hcz20_0 := vZ0 BK369; have hcz20_1 := vZ1 BK369; have hfz20_0 := kF BK369.out 0; have hfz20_1 := kF BK369.out 1; have p370 : 0 ≤ (x13_1 : Int) := dT aQ; have q370 : x13_1 < (l1.length : Int) := dT aQ; obtain ⟨ad370, e370, hx370_0, hx370_1⟩ := at_impl_Peg HR1.out x13_1 p370 q370; cases e370; have hn370_0 : ad370.block ≠ gb369 := nN (nL (by have := wB _ _ hx370_0; first | rwa [add_block] at this | exact this) GW369.out); have hn370_1 : ad370.block ≠ gb369 := nN (nL (by have := wB _ _ hx370_0; first | rwa [add_block] at this | exact this) GW369.out); replace hx370_0 := hC HB hx370_0; replace hx370_1 := hC HB hx370_1; replace hx370_0 := (cell_far (p := ⟨gb369, 0, none⟩) (by first | (rw [add_block]; exact hn370_0) | (show (Addr.add _ _).block ≠ _; rw [add_block]; exact hn370_0) | exact hn370_0) (.int .i64 ((rd_impl_Peg l0 x13_1).f0))).trans hx370_0; replace hx370_1 := (cell_far (p := ⟨gb369, 0, none⟩) (by first | (rw [add_block]; exact hn370_0) | (show (Addr.add _ _).block ≠ _; rw [add_block]; exact hn370_0) | exact hn370_0) (.int .i64 ((rd_impl_Peg l0 x13_1).f0))).trans hx370_1; replace hx370_0 := (cell_far (p := ⟨gb369, 1, none⟩) (by first | (rw [add_block]; exact hn370_1) | (show (Addr.add _ _).block ≠ _; rw [add_block]; exact hn370_1) | exact hn370_1) (.int .i64 ((rd_impl_Peg l0 x13_1).f1))).trans hx370_0; replace hx370_1 := (cell_far (p := ⟨gb369, 1, none⟩) (by first | (rw [add_block]; exact hn370_1) | (show (Addr.add _ _).block ≠ _; rw [add_block]; exact hn370_1) | exact hn370_1) (.int .i64 ((rd_impl_Peg l0 x13_1).f1))).trans hx370_1; clear hn370_0; clear hn370_1; replace p370 := eq_true p370; replace q370 := eq_true q370) | ((with_reducible refine gate_dst (N := 9) rfl ?_); refine bV 9 (cs := #[.int .i64 0, .int .i64 0]) (t := 50) rfl rfl (by first | (go_simp; done) | (go_simp; rfl)) ?_; intro gb371 hg w21 hbox hb; have BK371 := hbox; have GW371 := gZ HB hg; have GE371 := gZ HB hg; have NB369_371 := aM ((by rw [hg]; exact nN (blk_lt (g := gb369) (o := .cells #[.int .i64 ((rd_impl_Peg l0 x13_1).f0), .int .i64 ((rd_impl_Peg l0 x13_1).f1)] 50 (0, 0)) (fQ BK369)) : gb369 ≠ gb371)); have NB371_369 := aM ((by rw [hg]; exact Nat.ne_of_gt (blk_lt (g := gb369) (o := .cells #[.int .i64 ((rd_impl_Peg l0 x13_1).f0), .int .i64 ((rd_impl_Peg l0 x13_1).f1)] 50 (0, 0)) (fQ BK369)) : gb371 ≠ gb369)); replace BK369 := aM (blk_below (g := gb369) (o := .cells #[.int .i64 ((rd_impl_Peg l0 x13_1).f0), .int .i64 ((rd_impl_Peg l0 x13_1).f1)] 50 (0, 0)) (fQ BK369) hb); replace HB := tB HB hb; clear hb hbox hg; have hnb22 := NB371_369.out; have hnc22 := NB369_371.out; have hcz23_0 := vZ0 BK371; have hcz23_1 := vZ1 BK371; have hfz23_0 := kF BK371.out 0; have hfz23_1 := kF BK371.out 1; have hcz24_0 := vZ0 BK369; have hcz24_1 := vZ1 BK369; have hfz24_0 := kF BK369.out 0; have hfz24_1 := kF BK369.out 1) | ((with_reducible refine gate_tmp rfl ?_); refine goesLT_ (some 29) rfl rfl Try.func144 kR rfl #[.agg #[.int .i64 ((rd_impl_Peg l0 x13_1).f0), .int .i64 ((rd_impl_Peg l0 x13_1).f1)], .agg #[.int .i64 ((rd_impl_Peg l1 x13_1).f0), .int .i64 ((rd_impl_Peg l1 x13_1).f1)]] rfl (by first | rfl | (simp [Act.eval]; done)) sQ ?_; (with_reducible refine (impl_comparePegs.calls k1 ((rd_impl_Peg l0 x13_1).f0) ((rd_impl_Peg l0 x13_1).f1) ((rd_impl_Peg l1 x13_1).f0) ((rd_impl_Peg l1 x13_1).f1) t372 _ A10.out).mono ?_); rintro e w25 ⟨rfl, hb⟩; refine ⟨_, rfl, ?_⟩; replace BK369 := aM (blk_below (g := gb369) (o := .cells #[.int .i64 ((rd_impl_Peg l0 x13_1).f0), .int .i64 ((rd_impl_Peg l0 x13_1).f1)] 50 (0, 0)) (fQ BK369) hb); replace BK371 := aM (blk_below (g := gb371) (o := .cells #[.int .i64 ((rd_impl_Peg l1 x13_1).f0), .int .i64 ((rd_impl_Peg l1 x13_1).f1)] 50 (0, 0)) (fQ BK371) hb); replace HB := tB HB hb; (try clear hb); (try clear hb2); (try clear hk); (try clear hi)))
      go_ret
      exact ⟨wQ, bE⟩
   ·rw [if_neg c3] at H; have c3b0 := decide_eq_false c3; clear c3
    by_cases c26 : (l0.length : Int) < (l1.length : Int)
    ·rw [if_pos c26] at H; have c26b0 := dE c26; have c26b1 : decide (l0.length < l1.length) = true := dE (Int.ofNat_lt.mp c26); clear c26; obtain rfl := Option.some.inj H; go_wp2
     go_ret
     exact ⟨wQ, bQ⟩
    ·rw [if_neg c26] at H; have c26b0 := decide_eq_false c26; have c26b1 : decide (l0.length < l1.length) = false := decide_eq_false (fun h => c26 (Int.ofNat_lt.mpr h)); clear c26; obtain rfl := Option.some.inj H; go_wp2
     go_ret
     exact ⟨wQ, bQ⟩

def impl_comparePolygons.f (k : Nat) (l0 : List (S_impl_Peg)) (l1 : List (S_impl_Peg)) : Option (Int) := (slices_CompareFunc_impl_Peg_at_impl_comparePegs.f k l0 l1).bind fun t373 => (some t373)
theorem impl_comparePolygons.mono : ∀ a0 a1 k, LeO (impl_comparePolygons.f k a0 a1) (impl_comparePolygons.f (k + 1) a0 a1) := by
 intro a0 a1 k
 unfold impl_comparePolygons.f
 repeat' first | (with_reducible exact slices_CompareFunc_impl_Peg_at_impl_comparePegs.mono _ _ _) | (with_reducible exact LeO.refl _) | (with_reducible exact LeO.none _) | (with_reducible refine LeO.ite ?_ ?_) | (with_reducible refine LeO.bind ?_ (fun _ => ?_)) | exact slices_CompareFunc_impl_Peg_at_impl_comparePegs.mono _ _ _ | exact LeO.none _ | refine LeO.ite ?_ ?_ | refine LeO.bind ?_ (fun _ => ?_)
set_option maxHeartbeats 8000000 in
set_option maxRecDepth 100000 in
theorem impl_comparePolygons.calls (k : Nat) (A0 : Option Addr) (c0 : Nat) (l0 : List (S_impl_Peg)) (A1 : Option Addr) (c1 : Nat) (l1 : List (S_impl_Peg)) (r : Int) (w : World) (hr0 : Kd.C kd_impl_Peg w A0 l0.length l0) (hc0 : l0.length ≤ c0) (hr1 : Kd.C kd_impl_Peg w A1 l1.length l1) (hc1 : l1.length ≤ c1) (h : impl_comparePolygons.f k l0 l1 = some r) :
  Calls Try.prog 130 #[.slice A0 l0.length c0, .slice A1 l1.length c1] w fun e w' => e = .returned (.int .i64 r) ∧ Below w.heap.size w w' := by
 have HR0 := aM hr0; have HC0 := aM hc0; clear hr0 hc0; have HR1 := aM hr1; have HC1 := aM hc1; clear hr1 hc1; have HB := aM (Below.refl w.heap.size w)
 unfold impl_comparePolygons.f at h; have H := h; clear h
 replace H := bS H; obtain ⟨t373, A3, H⟩ := H; obtain rfl := Option.some.inj H
 go_enter Try.func130, Try.ntmps130
 go_wp2_with (first | ((with_reducible refine gC (f := 143) rfl ?_); refine goesL_ (some 7) rfl rfl Try.func143 kR rfl #[.slice A0 l0.length c0, .slice A1 l1.length c1, .func (.func 144) #[] #[]] rfl sQ ?_; (with_reducible refine (slices_CompareFunc_impl_Peg_at_impl_comparePegs.calls k _ _ l0 _ _ l1 t373 _ ?side1 ?side2 ?side3 ?side4 A3.out).mono ?_); (case side1 => repeat (first | exact HR0.out | (with_reducible refine cA ?_ _) | (with_reducible refine cN ?_ _) | (with_reducible refine cD ?_))); (case side2 => exact HC0.out); (case side3 => repeat (first | exact HR1.out | (with_reducible refine cA ?_ _) | (with_reducible refine cN ?_ _) | (with_reducible refine cD ?_))); (case side4 => exact HC1.out); rintro e w4 ⟨rfl, hb⟩; refine ⟨_, rfl, ?_⟩; replace HB := tB HB hb; (try clear hb); (try clear hb2); (try clear hk); (try clear hi)))
 go_ret
 exact ⟨wQ, bQ⟩

mutual
def impl_firstFrame.l0 : Nat → List (S_impl_Peg) → List (S_impl_Peg) → Int → Int → Option ((List (S_impl_Peg)))
 | 0, _, _, _, _ => none
 | k + 1, x0, x3, x11, x12 => if x12 < x11 then ((some (([1, (-1)] : List Int) : List Int)).bind fun y377 => (impl_firstFrame.l1 k x0 x3 x12 x11 x12 y377 (y377.length : Int) 0)) else (some x3)
def impl_firstFrame.l1 : Nat → List (S_impl_Peg) → List (S_impl_Peg) → Int → Int → Int → List Int → Int → Int → Option ((List (S_impl_Peg)))
 | 0, _, _, _, _, _, _, _, _ => none
 | k + 1, x0, x3, x4, x11, x12, x15, x16, x17 => if x17 < x16 then (if 0 ≤ x17 then (if x17 < (x15.length : Int) then ((impl_told.f k x0 x4 (rd x15 x17)).bind fun t381 => ((impl_frame.f k t381).bind fun t384 => ((impl_comparePolygons.f k t384 x3).bind fun t387 => (if t387 < 0 then (impl_firstFrame.l1 k x0 t384 x4 x11 x12 x15 x16 (wrap64 (x17 + 1))) else (impl_firstFrame.l1 k x0 x3 x4 x11 x12 x15 x16 (wrap64 (x17 + 1))))))) else (none)) else (none)) else (impl_firstFrame.l0 k x0 x3 x11 (wrap64 (x12 + 1)))
end
def impl_firstFrame.f (k : Nat) (l0 : List (S_impl_Peg)) : Option ((List (S_impl_Peg))) := (impl_frame.f k l0).bind fun t374 => (impl_firstFrame.l0 k l0 t374 (l0.length : Int) 0)
theorem impl_firstFrame.mono_l : ∀ k, (∀ y0 y1 y2 y3, LeO (impl_firstFrame.l0 k y0 y1 y2 y3) (impl_firstFrame.l0 (k + 1) y0 y1 y2 y3)) ∧ (∀ y0 y1 y2 y3 y4 y5 y6 y7, LeO (impl_firstFrame.l1 k y0 y1 y2 y3 y4 y5 y6 y7) (impl_firstFrame.l1 (k + 1) y0 y1 y2 y3 y4 y5 y6 y7))
 | 0 => ⟨fun _ _ _ _ r h => by simp [impl_firstFrame.l0] at h, fun _ _ _ _ _ _ _ _ r h => by simp [impl_firstFrame.l1] at h⟩
 | k + 1 => by
  obtain ⟨ih0, ih1⟩ := impl_firstFrame.mono_l k
  refine ⟨?_, ?_⟩ <;> intros <;> (first | unfold impl_firstFrame.l0 | unfold impl_firstFrame.l1) <;> repeat' first | (with_reducible exact ih0 _ _ _ _) | (with_reducible exact ih1 _ _ _ _ _ _ _ _) | (with_reducible exact impl_comparePolygons.mono _ _ _) | (with_reducible exact impl_frame.mono _ _) | (with_reducible exact impl_told.mono _ _ _ _) | (with_reducible exact LeO.refl _) | (with_reducible exact LeO.none _) | (with_reducible refine LeO.ite ?_ ?_) | (with_reducible refine LeO.bind ?_ (fun _ => ?_)) | exact ih0 _ _ _ _ | exact ih1 _ _ _ _ _ _ _ _ | exact impl_comparePolygons.mono _ _ _ | exact impl_frame.mono _ _ | exact impl_told.mono _ _ _ _ | exact LeO.none _ | refine LeO.ite ?_ ?_ | refine LeO.bind ?_ (fun _ => ?_)
theorem impl_firstFrame.mono : ∀ a0 k, LeO (impl_firstFrame.f k a0) (impl_firstFrame.f (k + 1) a0) := by
 intro a0 k
 obtain ⟨ih0, ih1⟩ := impl_firstFrame.mono_l k
 unfold impl_firstFrame.f
 repeat' first | (with_reducible exact ih0 _ _ _ _) | (with_reducible exact ih1 _ _ _ _ _ _ _ _) | (with_reducible exact impl_comparePolygons.mono _ _ _) | (with_reducible exact impl_frame.mono _ _) | (with_reducible exact impl_told.mono _ _ _ _) | (with_reducible exact LeO.refl _) | (with_reducible exact LeO.none _) | (with_reducible refine LeO.ite ?_ ?_) | (with_reducible refine LeO.bind ?_ (fun _ => ?_)) | exact ih0 _ _ _ _ | exact ih1 _ _ _ _ _ _ _ _ | exact impl_comparePolygons.mono _ _ _ | exact impl_frame.mono _ _ | exact impl_told.mono _ _ _ _ | exact LeO.none _ | refine LeO.ite ?_ ?_ | refine LeO.bind ?_ (fun _ => ?_)
set_option maxHeartbeats 8000000 in
set_option maxRecDepth 100000 in
theorem impl_firstFrame.calls (k : Nat) (A0 : Option Addr) (c0 : Nat) (l0 : List (S_impl_Peg)) (r : List (S_impl_Peg)) (w : World) (hr0 : Kd.C kd_impl_Peg w A0 l0.length l0) (hc0 : l0.length ≤ c0) (h : impl_firstFrame.f k l0 = some r) :
  Calls Try.prog 89 #[.slice A0 l0.length c0] w fun e w' => ∃ v0_ : Value, e = .returned (v0_) ∧ Kd.R kd_impl_Peg 50 w' w.heap.size (fun _ => True) v0_ r ∧ Below w.heap.size w w' := by
 have HR0 := aM hr0; have HC0 := aM hc0; clear hr0 hc0; have HB := aM (Below.refl w.heap.size w)
 unfold impl_firstFrame.f at h; have H := h; clear h
 replace H := bS H; obtain ⟨t374, A2, H⟩ := H; have H' := aM H; clear H
 go_enter Try.func89, Try.ntmps89
 go_wp2_with (first | ((with_reducible refine gC (f := 100) rfl ?_); refine goesL_ (some 9) rfl rfl Try.func100 kR rfl #[.slice A0 l0.length c0] rfl sQ ?_; (with_reducible refine (impl_frame.calls k _ _ l0 t374 _ ?side1 ?side2 A2.out).mono ?_); (case side1 => repeat (first | exact HR0.out | (with_reducible refine cA ?_ _) | (with_reducible refine cN ?_ _) | (with_reducible refine cD ?_))); (case side2 => exact HC0.out); rintro e w3 ⟨v375, rfl, ho0, hb⟩; refine ⟨_, rfl, ?_⟩; have HO376 := aM (Kd.R_lower ho0 (pZ bQ)); replace HB := tB HB hb; (try clear hb); (try clear hb2); (try clear hk); (try clear hi); (try clear ho0)))
 go_loopg [3, 12] k (fun kq v3 v12 w' => ∃ (x3_1 : List (S_impl_Peg)) (x12_1 : Int), v12 = .int .i64 x12_1 ∧ Aside0 (impl_firstFrame.l0 kq l0 x3_1 (l0.length : Int) x12_1 = some r) ∧ Aside0 (kq ≤ k) ∧ Aside0 (Kd.R kd_impl_Peg 50 w' w.heap.size (fun _ => True) v3 x3_1) ∧ Aside0 (Below w.heap.size w w'))
 case atStart => exact ⟨(t374), (0), eQ, H', ⟨Nat.le_refl _⟩, ⟨by (with_reducible repeat (first | apply rA | apply rN | apply rD)); exact HO376.out⟩, ⟨bQ⟩⟩
 case round =>
  clear H'; obtain ⟨x3_1, x12_1, rfl, HA, HK1, HO_3, HB⟩ := hrel
  cases gk with
  | zero => exact absurd HA.out (by simp [impl_firstFrame.l0])
  | succ k1 =>
   have H := HA.out; clear HA
   simp only [impl_firstFrame.l0] at H
   by_cases c4 : x12_1 < (l0.length : Int)
   ·rw [if_pos c4] at H; have c4b0 := dE c4; clear c4; replace H := lS H; obtain ⟨y377, Ny377, H⟩ := H; have H' := aM H; clear H
    go_wp2_with (first | ((with_reducible refine gate_dst (N := 15) rfl ?_); refine Kd.R_lit (Kd.int .i64) _ 3 ?hg (N := 15) ?hd (xs := ([1, (-1)] : List Int)) (inner := [.int .i64 1, .int .i64 (-1)]) (ok := fun _ => True) (okp := fun _ => True) ?hr ?hp (fun _ hk => hk) trivial (Below.refl _ _) (Nat.le_refl _) (by simp) ?_; (case hd => rfl); (case hg => rfl); (case hr => first | (go_simp; done) | (go_simp; rfl)); (case hp => exact (Reps.one (show Kd.M (Kd.int .i64) _ _ _ 1 [.int .i64 1] from rfl) (Reps.one (show Kd.M (Kd.int .i64) _ _ _ (-1) [.int .i64 (-1)] from rfl) (Reps.none _ _)))); intro v378 w5 ho6 hb hg_ hnew_; clear hg_ hnew_; (first | rw [← Ny377.out] at ho6 | (simp only [Int.reduceToNat] at ho6; rw [← Ny377.out] at ho6)); have HO379 := aM (Kd.R_lower ho6 (pZ bQ)); replace HO_3 := aM (Kd.R_below (by (with_reducible repeat (first | apply rA | apply rN | apply rD)); exact HO_3.out) hb); replace HB := tB HB hb; clear hb ho6; obtain ⟨Ao7, co7, eo7⟩ := Kd.R_slice HO379.out; subst eo7))
    go_loopg [3, 17] k1 (fun kq v3 v17 w' => ∃ (x3_2 : List (S_impl_Peg)) (x17_2 : Int), v17 = .int .i64 x17_2 ∧ Aside0 (impl_firstFrame.l1 kq l0 x3_2 x12_1 (l0.length : Int) x12_1 y377 (y377.length : Int) x17_2 = some r) ∧ Aside0 (kq ≤ k1) ∧ Aside0 (Kd.R kd_impl_Peg 50 w' w.heap.size (fun _ => True) v3 x3_2) ∧ Aside0 (Kd.R (Kd.int .i64) 3 w' w.heap.size (fun _ => True) (.slice Ao7 y377.length co7) y377) ∧ Aside0 (Below w.heap.size w w'))
    case atStart => exact ⟨(x3_1), (0), eQ, H', ⟨Nat.le_refl _⟩, ⟨by (with_reducible repeat (first | apply rA | apply rN | apply rD)); exact HO_3.out⟩, ⟨by (with_reducible repeat (first | apply rA | apply rN | apply rD)); exact HO379.out⟩, ⟨bQ⟩⟩
    case round =>
     clear H'; (try clear c4); (try clear c4b0); obtain ⟨x3_2, x17_2, rfl, HA, HK2, HO_3, HO_15, HB⟩ := hrel
     cases gk with
     | zero => exact absurd HA.out (by simp [impl_firstFrame.l1])
     | succ k2 =>
      have H := HA.out; clear HA
      simp only [impl_firstFrame.l1] at H
      by_cases c8 : x17_2 < (y377.length : Int)
      ·rw [if_pos c8] at H; have c8b0 := dE c8; clear c8; replace H := iD H; obtain ⟨c9b0, H⟩ := H; replace H := iD H; obtain ⟨c10b0, H⟩ := H; replace H := bS H; obtain ⟨t381, A11, H⟩ := H; replace H := bS H; obtain ⟨t384, A12, H⟩ := H; replace H := bS H; obtain ⟨t387, A13, H⟩ := H
       by_cases c14 : t387 < 0
       ·rw [if_pos c14] at H; have c14b0 := dE c14; clear c14; have H' := aM H; clear H; have p380 : 0 ≤ (x17_2 : Int) := dT aQ; have q380 : x17_2 < (y377.length : Int) := dT aQ; obtain ⟨ad380, e380, hx380_0⟩ := Kd.at_int (rR HO_15.out).2.2 x17_2 p380 q380
        cases e380
        replace p380 := eq_true p380; replace q380 := eq_true q380
        go_wp2_with (first | ((with_reducible refine gC (f := 101) rfl ?_); refine goesL_ (some 24) rfl rfl Try.func101 kR rfl #[.slice A0 l0.length c0, .int .i64 x12_1, .int .i64 (rd y377 x17_2)] rfl sQ ?_; (with_reducible refine (impl_told.calls k2 _ _ l0 x12_1 (rd y377 x17_2) t381 _ ?side1 ?side2 A11.out).mono ?_); (case side1 => repeat (first | exact (Kd.C_below HR0.out HB.out) | (with_reducible refine cA ?_ _) | (with_reducible refine cN ?_ _) | (with_reducible refine cD ?_))); (case side2 => exact HC0.out); rintro e w15 ⟨v382, rfl, ho0, hb⟩; refine ⟨_, rfl, ?_⟩; have HO383 := aM (Kd.R_lower (Kd.R_new' ho0 (Kd.R_lt (by (with_reducible repeat (first | apply rA | apply rN | apply rD)); exact HO_3.out))) (pZ bQ)); replace HO_3 := aM (Kd.R_elder' (by (with_reducible repeat (first | apply rA | apply rN | apply rD)); exact HO_3.out) (Kd.R_base ho0) hb); replace HO_15 := aM (Kd.R_below (by (with_reducible repeat (first | apply rA | apply rN | apply rD)); exact HO_15.out) hb); replace HB := tB HB hb; (try clear hb); (try clear hb2); (try clear hk); (try clear hi); (try clear ho0); obtain ⟨Ao16, co16, eo16⟩ := Kd.R_slice HO383.out; subst eo16) | ((with_reducible refine gC (f := 100) rfl ?_); refine goesL_ (some 25) rfl rfl Try.func100 kR rfl #[.slice Ao16 t381.length co16] rfl sQ ?_; (with_reducible refine (impl_frame.calls k2 _ _ t381 t384 _ ?side1 ?side2 A12.out).mono ?_); (case side1 => repeat (first | exact (rR HO383.out).2.2 | (with_reducible refine cA ?_ _) | (with_reducible refine cN ?_ _) | (with_reducible refine cD ?_))); (case side2 => exact (rR HO383.out).2.1); rintro e w17 ⟨v385, rfl, ho0, hb⟩; refine ⟨_, rfl, ?_⟩; have HO386 := aM (Kd.R_lower (Kd.R_new' (Kd.R_new' ho0 (Kd.R_lt (by (with_reducible repeat (first | apply rA | apply rN | apply rD)); exact HO_3.out))) (Kd.R_lt (by (with_reducible repeat (first | apply rA | apply rN | apply rD)); exact HO383.out))) (pZ bQ)); replace HO_3 := aM (Kd.R_elder' (by (with_reducible repeat (first | apply rA | apply rN | apply rD)); exact HO_3.out) (Kd.R_base ho0) hb); replace HO_15 := aM (Kd.R_below (by (with_reducible repeat (first | apply rA | apply rN | apply rD)); exact HO_15.out) hb); replace HO383 := aM (Kd.R_elder' (by (with_reducible repeat (first | apply rA | apply rN | apply rD)); exact HO383.out) (Kd.R_base ho0) hb); replace HB := tB HB hb; (try clear hb); (try clear hb2); (try clear hk); (try clear hi); (try clear ho0); obtain ⟨Ao18, co18, eo18⟩ := Kd.R_slice HO386.out; subst eo18; obtain ⟨Ao19, co19, eo19⟩ := Kd.R_slice HO_3.out; subst eo19) | ((with_reducible refine gC (f := 130) rfl ?_); refine goesL_ (some 28) rfl rfl Try.func130 kR rfl #[.slice Ao18 t384.length co18, .slice Ao19 x3_2.length co19] rfl sQ ?_; (with_reducible refine (impl_comparePolygons.calls k2 _ _ t384 _ _ x3_2 t387 _ ?side1 ?side2 ?side3 ?side4 A13.out).mono ?_); (case side1 => repeat (first | exact (rR HO386.out).2.2 | (with_reducible refine cA ?_ _) | (with_reducible refine cN ?_ _) | (with_reducible refine cD ?_))); (case side2 => exact (rR HO386.out).2.1); (case side3 => repeat (first | exact (rR HO_3.out).2.2 | (with_reducible refine cA ?_ _) | (with_reducible refine cN ?_ _) | (with_reducible refine cD ?_))); (case side4 => exact (rR HO_3.out).2.1); rintro e w20 ⟨rfl, hb⟩; refine ⟨_, rfl, ?_⟩; replace HO_3 := aM (Kd.R_below (by (with_reducible repeat (first | apply rA | apply rN | apply rD)); exact HO_3.out) hb); replace HO_15 := aM (Kd.R_below (by (with_reducible repeat (first | apply rA | apply rN | apply rD)); exact HO_15.out) hb); replace HO383 := aM (Kd.R_below (by (with_reducible repeat (first | apply rA | apply rN | apply rD)); exact HO383.out) hb); replace HO386 := aM (Kd.R_below (by (with_reducible repeat (first | apply rA | apply rN | apply rD)); exact HO386.out) hb); replace HB := tB HB hb; (try clear hb); (try clear hb2); (try clear hk); (try clear hi)))
        go_roundg k2
        case measure => have := HK1.out; have := HK2.out; omega
        case rel => exact ⟨(t384), (wrap64 (x17_2 + 1)), eQ, H', ⟨by have := HK1.out; have := HK2.out; omega⟩, ⟨by (with_reducible repeat (first | apply rA | apply rN | apply rD)); exact Kd.R_mono HO386.out (fun _ hk => trivial)⟩, ⟨by (with_reducible repeat (first | apply rA | apply rN | apply rD)); exact HO_15.out⟩, ⟨bQ⟩⟩
       ·rw [if_neg c14] at H; have c14b0 := decide_eq_false c14; clear c14; have H' := aM H; clear H; have p380 : 0 ≤ (x17_2 : Int) := dT aQ; have q380 : x17_2 < (y377.length : Int) := dT aQ; obtain ⟨ad380, e380, hx380_0⟩ := Kd.at_int (rR HO_15.out).2.2 x17_2 p380 q380
        cases e380
        replace p380 := eq_true p380; replace q380 := eq_true q380
        go_wp2_with (first | ((with_reducible refine gC (f := 101) rfl ?_); refine goesL_ (some 24) rfl rfl Try.func101 kR rfl #[.slice A0 l0.length c0, .int .i64 x12_1, .int .i64 (rd y377 x17_2)] rfl sQ ?_; (with_reducible refine (impl_told.calls k2 _ _ l0 x12_1 (rd y377 x17_2) t381 _ ?side1 ?side2 A11.out).mono ?_); (case side1 => repeat (first | exact (Kd.C_below HR0.out HB.out) | (with_reducible refine cA ?_ _) | (with_reducible refine cN ?_ _) | (with_reducible refine cD ?_))); (case side2 => exact HC0.out); rintro e w21 ⟨v382, rfl, ho0, hb⟩; refine ⟨_, rfl, ?_⟩; have HO383 := aM (Kd.R_lower (Kd.R_new' ho0 (Kd.R_lt (by (with_reducible repeat (first | apply rA | apply rN | apply rD)); exact HO_3.out))) (pZ bQ)); replace HO_3 := aM (Kd.R_elder' (by (with_reducible repeat (first | apply rA | apply rN | apply rD)); exact HO_3.out) (Kd.R_base ho0) hb); replace HO_15 := aM (Kd.R_below (by (with_reducible repeat (first | apply rA | apply rN | apply rD)); exact HO_15.out) hb); replace HB := tB HB hb; (try clear hb); (try clear hb2); (try clear hk); (try clear hi); (try clear ho0); obtain ⟨Ao22, co22, eo22⟩ := Kd.R_slice HO383.out; subst eo22) | ((with_reducible refine gC (f := 100) rfl ?_); refine goesL_ (some 25) rfl rfl Try.func100 kR rfl #[.slice Ao22 t381.length co22] rfl sQ ?_; (with_reducible refine (impl_frame.calls k2 _ _ t381 t384 _ ?side1 ?side2 A12.out).mono ?_); (case side1 => repeat (first | exact (rR HO383.out).2.2 | (with_reducible refine cA ?_ _) | (with_reducible refine cN ?_ _) | (with_reducible refine cD ?_))); (case side2 => exact (rR HO383.out).2.1); rintro e w23 ⟨v385, rfl, ho0, hb⟩; refine ⟨_, rfl, ?_⟩; have HO386 := aM (Kd.R_lower (Kd.R_new' (Kd.R_new' ho0 (Kd.R_lt (by (with_reducible repeat (first | apply rA | apply rN | apply rD)); exact HO_3.out))) (Kd.R_lt (by (with_reducible repeat (first | apply rA | apply rN | apply rD)); exact HO383.out))) (pZ bQ)); replace HO_3 := aM (Kd.R_elder' (by (with_reducible repeat (first | apply rA | apply rN | apply rD)); exact HO_3.out) (Kd.R_base ho0) hb); replace HO_15 := aM (Kd.R_below (by (with_reducible repeat (first | apply rA | apply rN | apply rD)); exact HO_15.out) hb); replace HO383 := aM (Kd.R_elder' (by (with_reducible repeat (first | apply rA | apply rN | apply rD)); exact HO383.out) (Kd.R_base ho0) hb); replace HB := tB HB hb; (try clear hb); (try clear hb2); (try clear hk); (try clear hi); (try clear ho0); obtain ⟨Ao24, co24, eo24⟩ := Kd.R_slice HO386.out; subst eo24; obtain ⟨Ao25, co25, eo25⟩ := Kd.R_slice HO_3.out; subst eo25) | ((with_reducible refine gC (f := 130) rfl ?_); refine goesL_ (some 28) rfl rfl Try.func130 kR rfl #[.slice Ao24 t384.length co24, .slice Ao25 x3_2.length co25] rfl sQ ?_; (with_reducible refine (impl_comparePolygons.calls k2 _ _ t384 _ _ x3_2 t387 _ ?side1 ?side2 ?side3 ?side4 A13.out).mono ?_); (case side1 => repeat (first | exact (rR HO386.out).2.2 | (with_reducible refine cA ?_ _) | (with_reducible refine cN ?_ _) | (with_reducible refine cD ?_))); (case side2 => exact (rR HO386.out).2.1); (case side3 => repeat (first | exact (rR HO_3.out).2.2 | (with_reducible refine cA ?_ _) | (with_reducible refine cN ?_ _) | (with_reducible refine cD ?_))); (case side4 => exact (rR HO_3.out).2.1); rintro e w26 ⟨rfl, hb⟩; refine ⟨_, rfl, ?_⟩; replace HO_3 := aM (Kd.R_below (by (with_reducible repeat (first | apply rA | apply rN | apply rD)); exact HO_3.out) hb); replace HO_15 := aM (Kd.R_below (by (with_reducible repeat (first | apply rA | apply rN | apply rD)); exact HO_15.out) hb); replace HO383 := aM (Kd.R_below (by (with_reducible repeat (first | apply rA | apply rN | apply rD)); exact HO383.out) hb); replace HO386 := aM (Kd.R_below (by (with_reducible repeat (first | apply rA | apply rN | apply rD)); exact HO386.out) hb); replace HB := tB HB hb; (try clear hb); (try clear hb2); (try clear hk); (try clear hi)))
        go_roundg k2
        case measure => have := HK1.out; have := HK2.out; omega
        case rel => exact ⟨(x3_2), (wrap64 (x17_2 + 1)), eQ, H', ⟨by have := HK1.out; have := HK2.out; omega⟩, ⟨by (with_reducible repeat (first | apply rA | apply rN | apply rD)); exact Kd.R_mono HO_3.out (fun _ hk => trivial)⟩, ⟨by (with_reducible repeat (first | apply rA | apply rN | apply rD)); exact HO_15.out⟩, ⟨bQ⟩⟩
      ·rw [if_neg c8] at H; have c8b0 := decide_eq_false c8; clear c8; have H' := aM H; clear H; go_wp2
       go_roundg k2
       case measure => have := HK1.out; have := HK2.out; omega
       case rel => exact ⟨(x3_2), (wrap64 (x12_1 + 1)), eQ, H', ⟨by have := HK1.out; have := HK2.out; omega⟩, ⟨by (with_reducible repeat (first | apply rA | apply rN | apply rD)); exact HO_3.out⟩, ⟨bQ⟩⟩
   ·rw [if_neg c4] at H; have c4b0 := decide_eq_false c4; clear c4; obtain rfl := Option.some.inj H; go_wp2
    go_ret
    exact ⟨_, by first | rfl | (simp [errW_none, errW_some] <;> rfl) | (simp [*, errW_none, errW_some] <;> rfl), by (with_reducible repeat (first | apply rA | apply rN | apply rD)); exact HO_3.out, bQ⟩

def impl_KindOfPolygon.f (k : Nat) (l0 : List (S_impl_Peg)) : Option ((List (S_impl_Peg)) × Bool) := (impl_IsPolygon.f k l0).bind fun t388 => (if t388 = true then ((impl_firstFrame.f k l0).bind fun t389 => ((impl_arePegs.f k t389).bind fun t392 => (if t392 = true then (some (t389, true)) else (some (([] : List (S_impl_Peg)), false))))) else (some (([] : List (S_impl_Peg)), false)))
theorem impl_KindOfPolygon.mono : ∀ a0 k, LeO (impl_KindOfPolygon.f k a0) (impl_KindOfPolygon.f (k + 1) a0) := by
 intro a0 k
 unfold impl_KindOfPolygon.f
 repeat' first | (with_reducible exact impl_IsPolygon.mono _ _) | (with_reducible exact impl_arePegs.mono _ _) | (with_reducible exact impl_firstFrame.mono _ _) | (with_reducible exact LeO.refl _) | (with_reducible exact LeO.none _) | (with_reducible refine LeO.ite ?_ ?_) | (with_reducible refine LeO.bind ?_ (fun _ => ?_)) | exact impl_IsPolygon.mono _ _ | exact impl_arePegs.mono _ _ | exact impl_firstFrame.mono _ _ | exact LeO.none _ | refine LeO.ite ?_ ?_ | refine LeO.bind ?_ (fun _ => ?_)
set_option maxHeartbeats 8000000 in
set_option maxRecDepth 100000 in
theorem impl_KindOfPolygon.calls (k : Nat) (A0 : Option Addr) (c0 : Nat) (l0 : List (S_impl_Peg)) (r1 : List (S_impl_Peg)) (r2 : Bool) (w : World) (hr0 : Kd.C kd_impl_Peg w A0 l0.length l0) (hc0 : l0.length ≤ c0) (h : impl_KindOfPolygon.f k l0 = some (r1, r2)) :
  Calls Try.prog 41 #[.slice A0 l0.length c0] w fun e w' => ∃ v0_ : Value, e = .returned (.tuple #[v0_, .bool r2]) ∧ Kd.R kd_impl_Peg 50 w' w.heap.size (fun _ => True) v0_ r1 ∧ Below w.heap.size w w' := by
 have HR0 := aM hr0; have HC0 := aM hc0; clear hr0 hc0; have HB := aM (Below.refl w.heap.size w)
 unfold impl_KindOfPolygon.f at h; have H := h; clear h
 replace H := bS H; obtain ⟨t388, A2, H⟩ := H
 by_cases c3 : t388 = true
 ·subst c3; replace H := iT H; replace H := bS H; obtain ⟨t389, A4, H⟩ := H; replace H := bS H; obtain ⟨t392, A5, H⟩ := H
  by_cases c6 : t392 = true
  ·subst c6; replace H := iT H
   simp only [Option.some.injEq, Prod.mk.injEq] at H
   obtain ⟨rfl, rfl⟩ := H
   go_enter Try.func41, Try.ntmps41
   go_wp2_with (first | ((with_reducible refine gC (f := 88) rfl ?_); refine goesL_ (some 6) rfl rfl Try.func88 kR rfl #[.slice A0 l0.length c0] rfl sQ ?_; (with_reducible refine (impl_IsPolygon.calls k _ _ l0 true _ ?side1 ?side2 A2.out).mono ?_); (case side1 => repeat (first | exact HR0.out | (with_reducible refine cA ?_ _) | (with_reducible refine cN ?_ _) | (with_reducible refine cD ?_))); (case side2 => exact HC0.out); rintro e w7 ⟨rfl, hb⟩; refine ⟨_, rfl, ?_⟩; replace HB := tB HB hb; (try clear hb); (try clear hb2); (try clear hk); (try clear hi)) | ((with_reducible refine gC (f := 89) rfl ?_); refine goesL_ (some 9) rfl rfl Try.func89 kR rfl #[.slice A0 l0.length c0] rfl sQ ?_; (with_reducible refine (impl_firstFrame.calls k _ _ l0 t389 _ ?side1 ?side2 A4.out).mono ?_); (case side1 => repeat (first | exact (Kd.C_below HR0.out HB.out) | (with_reducible refine cA ?_ _) | (with_reducible refine cN ?_ _) | (with_reducible refine cD ?_))); (case side2 => exact HC0.out); rintro e w8 ⟨v390, rfl, ho0, hb⟩; refine ⟨_, rfl, ?_⟩; have HO391 := aM (Kd.R_lower ho0 (pZ bQ)); replace HB := tB HB hb; (try clear hb); (try clear hb2); (try clear hk); (try clear hi); (try clear ho0); obtain ⟨Ao9, co9, eo9⟩ := Kd.R_slice HO391.out; subst eo9) | ((with_reducible refine gC (f := 90) rfl ?_); refine goesL_ (some 11) rfl rfl Try.func90 kR rfl #[.slice Ao9 t389.length co9] rfl sQ ?_; (with_reducible refine (impl_arePegs.calls k _ _ t389 true _ ?side1 ?side2 A5.out).mono ?_); (case side1 => repeat (first | exact (rR HO391.out).2.2 | (with_reducible refine cA ?_ _) | (with_reducible refine cN ?_ _) | (with_reducible refine cD ?_))); (case side2 => exact (rR HO391.out).2.1); rintro e w10 ⟨rfl, hb⟩; refine ⟨_, rfl, ?_⟩; replace HO391 := aM (Kd.R_below (by (with_reducible repeat (first | apply rA | apply rN | apply rD)); exact HO391.out) hb); replace HB := tB HB hb; (try clear hb); (try clear hb2); (try clear hk); (try clear hi)))
   go_ret2
   exact ⟨_, by first | rfl | (simp [errW_none, errW_some] <;> rfl) | (simp [*, errW_none, errW_some] <;> rfl), by (with_reducible repeat (first | apply rA | apply rN | apply rD)); exact HO391.out, bQ⟩
  ·replace c6 := Bool.eq_false_iff.mpr c6; subst c6; replace H := iF H
   simp only [Option.some.injEq, Prod.mk.injEq] at H
   obtain ⟨rfl, rfl⟩ := H
   go_enter Try.func41, Try.ntmps41
   go_wp2_with (first | ((with_reducible refine gC (f := 88) rfl ?_); refine goesL_ (some 6) rfl rfl Try.func88 kR rfl #[.slice A0 l0.length c0] rfl sQ ?_; (with_reducible refine (impl_IsPolygon.calls k _ _ l0 true _ ?side1 ?side2 A2.out).mono ?_); (case side1 => repeat (first | exact HR0.out | (with_reducible refine cA ?_ _) | (with_reducible refine cN ?_ _) | (with_reducible refine cD ?_))); (case side2 => exact HC0.out); rintro e w11 ⟨rfl, hb⟩; refine ⟨_, rfl, ?_⟩; replace HB := tB HB hb; (try clear hb); (try clear hb2); (try clear hk); (try clear hi)) | ((with_reducible refine gC (f := 89) rfl ?_); refine goesL_ (some 9) rfl rfl Try.func89 kR rfl #[.slice A0 l0.length c0] rfl sQ ?_; (with_reducible refine (impl_firstFrame.calls k _ _ l0 t389 _ ?side1 ?side2 A4.out).mono ?_); (case side1 => repeat (first | exact (Kd.C_below HR0.out HB.out) | (with_reducible refine cA ?_ _) | (with_reducible refine cN ?_ _) | (with_reducible refine cD ?_))); (case side2 => exact HC0.out); rintro e w12 ⟨v390, rfl, ho0, hb⟩; refine ⟨_, rfl, ?_⟩; have HO391 := aM (Kd.R_lower ho0 (pZ bQ)); replace HB := tB HB hb; (try clear hb); (try clear hb2); (try clear hk); (try clear hi); (try clear ho0); obtain ⟨Ao13, co13, eo13⟩ := Kd.R_slice HO391.out; subst eo13) | ((with_reducible refine gC (f := 90) rfl ?_); refine goesL_ (some 11) rfl rfl Try.func90 kR rfl #[.slice Ao13 t389.length co13] rfl sQ ?_; (with_reducible refine (impl_arePegs.calls k _ _ t389 false _ ?side1 ?side2 A5.out).mono ?_); (case side1 => repeat (first | exact (rR HO391.out).2.2 | (with_reducible refine cA ?_ _) | (with_reducible refine cN ?_ _) | (with_reducible refine cD ?_))); (case side2 => exact (rR HO391.out).2.1); rintro e w14 ⟨rfl, hb⟩; refine ⟨_, rfl, ?_⟩; replace HO391 := aM (Kd.R_below (by (with_reducible repeat (first | apply rA | apply rN | apply rD)); exact HO391.out) hb); replace HB := tB HB hb; (try clear hb); (try clear hb2); (try clear hk); (try clear hi)))
   go_ret2
   exact ⟨_, by first | rfl | (simp [errW_none, errW_some] <;> rfl) | (simp [*, errW_none, errW_some] <;> rfl), by first | exact Kd.R_nil _ _ _ _ _ | exact Kd.N_nil _ _ _ _ _ | exact Kd.V_nil _ _ _ _ _ | exact Kd.Q_nil _ _ _ _ _ | exact Kd.S_nil _ _ _ _ _, bQ⟩
 ·replace c3 := Bool.eq_false_iff.mpr c3; subst c3; replace H := iF H
  simp only [Option.some.injEq, Prod.mk.injEq] at H
  obtain ⟨rfl, rfl⟩ := H
  go_enter Try.func41, Try.ntmps41
  go_wp2_with (first | ((with_reducible refine gC (f := 88) rfl ?_); refine goesL_ (some 6) rfl rfl Try.func88 kR rfl #[.slice A0 l0.length c0] rfl sQ ?_; (with_reducible refine (impl_IsPolygon.calls k _ _ l0 false _ ?side1 ?side2 A2.out).mono ?_); (case side1 => repeat (first | exact HR0.out | (with_reducible refine cA ?_ _) | (with_reducible refine cN ?_ _) | (with_reducible refine cD ?_))); (case side2 => exact HC0.out); rintro e w15 ⟨rfl, hb⟩; refine ⟨_, rfl, ?_⟩; replace HB := tB HB hb; (try clear hb); (try clear hb2); (try clear hk); (try clear hi)))
  go_ret2
  exact ⟨_, by first | rfl | (simp [errW_none, errW_some] <;> rfl) | (simp [*, errW_none, errW_some] <;> rfl), by first | exact Kd.R_nil _ _ _ _ _ | exact Kd.N_nil _ _ _ _ _ | exact Kd.V_nil _ _ _ _ _ | exact Kd.Q_nil _ _ _ _ _ | exact Kd.S_nil _ _ _ _ _, bQ⟩

end Go.Proofs.Ytfihohongkfibaa.X
