-- thin
-- short
-- compact
import Derived.Test.YtoeclfihlhmnpaaXA
import Derived.Test.YtoeclfihlhmnpaaX0
import Derived.Test.YtoeclfihlhmnpaaX3
import Derived.Test.YtoeclfihlhmnpaaX5
namespace Go.Proofs.Ytoeclfihlhmnpaa.X
open Go.RowKit Go.Proofs.Ytoeclfihlhmnpaa.XW Go.Proofs.YtoeclfihlhmnpaaW.PrintWords Go.Proofs.YtoeclfihlhmnpaaW.PrintLast Go.Proofs.YtoeclfihlhmnpaaW.PrintMore
attribute [local go_sem] max2_int min2_int max_two min_two max_three min_three max_four min_four   -- for this text's walks alone
set_option linter.unusedVariables false
set_option linter.unusedSimpArgs false

mutual
def spec_bdBand.l0 : Nat → List (S_impl_Peg) → List (S_impl_Peg) → Int → Option ((List (S_impl_Peg)))
 | 0, _, _, _ => none
 | k + 1, x3, x4, x5 => if x5 < 2 then (spec_bdBand.l1 k x3 x4 x5 (x4.length : Int) (x3.length : Int) 0) else (some x4)
def spec_bdBand.l1 : Nat → List (S_impl_Peg) → List (S_impl_Peg) → Int → Int → Int → Int → Option ((List (S_impl_Peg)))
 | 0, _, _, _, _, _, _ => none
 | k + 1, x3, x4, x5, x6, x22, x23 => if x23 < x22 then (if 0 ≤ x23 then (if x23 < (x3.length : Int) then (if x5 = 1 then (if 0 ≤ (wrap64 ((wrap64 ((x3.length : Int) - 1)) - x23)) then (if (wrap64 ((wrap64 ((x3.length : Int) - 1)) - x23)) < (x3.length : Int) then (spec_bdBand.j2 k x3 x4 x5 x6 x22 x23 ((rd_impl_Peg x3 (wrap64 ((wrap64 ((x3.length : Int) - 1)) - x23))).f0) ((rd_impl_Peg x3 (wrap64 ((wrap64 ((x3.length : Int) - 1)) - x23))).f1)) else (none)) else (none)) else (spec_bdBand.j2 k x3 x4 x5 x6 x22 x23 ((rd_impl_Peg x3 x23).f0) ((rd_impl_Peg x3 x23).f1))) else (none)) else (none)) else (if 0 ≤ (wrap64 ((x4.length : Int) - 1)) then (if (wrap64 ((x4.length : Int) - 1)) ≤ (x4.length : Int) then (spec_bdBand.l0 k x3 (x4.take ((wrap64 ((x4.length : Int) - 1)) : Int).toNat) (wrap64 (x5 + 1))) else (none)) else (none))
def spec_bdBand.j2 : Nat → List (S_impl_Peg) → List (S_impl_Peg) → Int → Int → Int → Int → Int → Int → Option ((List (S_impl_Peg)))
 | 0, _, _, _, _, _, _, _, _ => none
 | k + 1, x3, x4, x5, x6, x22, x23, x208000, x208001 => spec_bdBand.l2 k x3 x4 x5 x6 x22 x23 x208000 x208001
def spec_bdBand.l2 : Nat → List (S_impl_Peg) → List (S_impl_Peg) → Int → Int → Int → Int → Int → Int → Option ((List (S_impl_Peg)))
 | 0, _, _, _, _, _, _, _, _ => none
 | k + 1, x3, x4, x5, x6, x22, x23, x208000, x208001 => if (x4.length : Int) > (wrap64 (x6 + 1)) then (if 0 ≤ (wrap64 ((x4.length : Int) - 2)) then (if (wrap64 ((x4.length : Int) - 2)) < (x4.length : Int) then (if 0 ≤ (wrap64 ((x4.length : Int) - 1)) then (if (wrap64 ((x4.length : Int) - 1)) < (x4.length : Int) then ((spec_pgTurn.f ((rd_impl_Peg x4 (wrap64 ((x4.length : Int) - 2))).f0) ((rd_impl_Peg x4 (wrap64 ((x4.length : Int) - 2))).f1) ((rd_impl_Peg x4 (wrap64 ((x4.length : Int) - 1))).f0) ((rd_impl_Peg x4 (wrap64 ((x4.length : Int) - 1))).f1) x208000 x208001).bind fun t211 => (if t211 ≤ 0 then (if (wrap64 ((x4.length : Int) - 1)) ≤ (x4.length : Int) then (spec_bdBand.l2 k x3 (x4.take ((wrap64 ((x4.length : Int) - 1)) : Int).toNat) x5 x6 x22 x23 x208000 x208001) else (none)) else (if x4.length < 8796093022208 then (spec_bdBand.l1 k x3 (x4 ++ [(⟨x208000, x208001⟩ : S_impl_Peg)]) x5 x6 x22 (wrap64 (x23 + 1))) else (none)))) else (none)) else (none)) else (none)) else (none)) else (if x4.length < 8796093022208 then (spec_bdBand.l1 k x3 (x4 ++ [(⟨x208000, x208001⟩ : S_impl_Peg)]) x5 x6 x22 (wrap64 (x23 + 1))) else (none))
end
def spec_bdBand.f (k : Nat) (l0 : List (S_impl_Peg)) : Option ((List (S_impl_Peg))) := (spec_bdSorted.f k l0).bind fun t200 => (if (t200.length : Int) < 3 then (some t200) else (spec_bdBand.l0 k t200 ([] : List (S_impl_Peg)) 0))
theorem spec_bdBand.mono_l : ∀ k, (∀ y0 y1 y2, LeO (spec_bdBand.l0 k y0 y1 y2) (spec_bdBand.l0 (k + 1) y0 y1 y2)) ∧ (∀ y0 y1 y2 y3 y4 y5, LeO (spec_bdBand.l1 k y0 y1 y2 y3 y4 y5) (spec_bdBand.l1 (k + 1) y0 y1 y2 y3 y4 y5)) ∧ (∀ y0 y1 y2 y3 y4 y5 y6 y7, LeO (spec_bdBand.j2 k y0 y1 y2 y3 y4 y5 y6 y7) (spec_bdBand.j2 (k + 1) y0 y1 y2 y3 y4 y5 y6 y7)) ∧ (∀ y0 y1 y2 y3 y4 y5 y6 y7, LeO (spec_bdBand.l2 k y0 y1 y2 y3 y4 y5 y6 y7) (spec_bdBand.l2 (k + 1) y0 y1 y2 y3 y4 y5 y6 y7))
 | 0 => ⟨fun _ _ _ r h => by simp [spec_bdBand.l0] at h, fun _ _ _ _ _ _ r h => by simp [spec_bdBand.l1] at h, fun _ _ _ _ _ _ _ _ r h => by simp [spec_bdBand.j2] at h, fun _ _ _ _ _ _ _ _ r h => by simp [spec_bdBand.l2] at h⟩
 | k + 1 => by
  obtain ⟨ih0, ih1, ih2, ih3⟩ := spec_bdBand.mono_l k
  refine ⟨?_, ?_, ?_, ?_⟩ <;> intros <;> (first | unfold spec_bdBand.l0 | unfold spec_bdBand.l1 | unfold spec_bdBand.j2 | unfold spec_bdBand.l2) <;> repeat' first | (with_reducible exact ih0 _ _ _) | (with_reducible exact ih1 _ _ _ _ _ _) | (with_reducible exact ih2 _ _ _ _ _ _ _ _) | (with_reducible exact ih3 _ _ _ _ _ _ _ _) | (with_reducible exact spec_bdSorted.mono _ _) | (with_reducible exact LeO.refl _) | (with_reducible exact LeO.none _) | (with_reducible refine LeO.ite ?_ ?_) | (with_reducible refine LeO.bind ?_ (fun _ => ?_)) | exact ih0 _ _ _ | exact ih1 _ _ _ _ _ _ | exact ih2 _ _ _ _ _ _ _ _ | exact ih3 _ _ _ _ _ _ _ _ | exact spec_bdSorted.mono _ _ | exact LeO.none _ | refine LeO.ite ?_ ?_ | refine LeO.bind ?_ (fun _ => ?_)
theorem spec_bdBand.mono : ∀ a0 k, LeO (spec_bdBand.f k a0) (spec_bdBand.f (k + 1) a0) := by
 intro a0 k
 obtain ⟨ih0, ih1, ih2, ih3⟩ := spec_bdBand.mono_l k
 unfold spec_bdBand.f
 repeat' first | (with_reducible exact ih0 _ _ _) | (with_reducible exact ih1 _ _ _ _ _ _) | (with_reducible exact ih2 _ _ _ _ _ _ _ _) | (with_reducible exact ih3 _ _ _ _ _ _ _ _) | (with_reducible exact spec_bdSorted.mono _ _) | (with_reducible exact LeO.refl _) | (with_reducible exact LeO.none _) | (with_reducible refine LeO.ite ?_ ?_) | (with_reducible refine LeO.bind ?_ (fun _ => ?_)) | exact ih0 _ _ _ | exact ih1 _ _ _ _ _ _ | exact ih2 _ _ _ _ _ _ _ _ | exact ih3 _ _ _ _ _ _ _ _ | exact spec_bdSorted.mono _ _ | exact LeO.none _ | refine LeO.ite ?_ ?_ | refine LeO.bind ?_ (fun _ => ?_)
def spec_bdBand.T15 : Bool × List (List Nat × List Nat) := (true, [([], []), ([0], [0]), ([], []), ([2], [2]), ([1, 3], [1, 3]), ([4], [4]), ([5], [5]), ([5], [5]), ([7, 5], [5, 7]), ([8, 5], [5, 8]), ([6, 9, 5], [5, 6, 9]), ([10, 5], [5, 10]), ([5], [5]), ([5], [5]), ([13, 5], [5, 13]), ([14, 5], [5, 14]), ([12, 15, 5], [5, 12, 15]), ([16, 5], [5, 16]), ([5], [5]), ([11, 17, 18, 5, 5], [5, 11, 17, 18]), ([19, 5], [5, 19]), ([5, 20], [5, 20])])
def spec_bdBand.B15 : List Nat := [0, 1, 0, 4, 15, 31, 63, 63, 191, 447, 1023, 2047, 63, 63, 8255, 24639, 61503, 127039, 63, 524287, 1048575, 2097151]
theorem spec_bdBand.tab15 : rtab .any (opsOf Try.f43 15) = spec_bdBand.T15 := by kernel_rfl
theorem spec_bdBand.bits15 : waitsOk spec_bdBand.T15.2 spec_bdBand.B15 = true := by kernel_rfl
set_option maxHeartbeats 8000000 in
set_option maxRecDepth 100000 in
theorem spec_bdBand.calls (k : Nat) (A0 : Option Addr) (c0 : Nat) (l0 : List (S_impl_Peg)) (r : List (S_impl_Peg)) (w : World) (hr0 : Kd.C kd_impl_Peg w A0 l0.length l0) (hc0 : l0.length ≤ c0) (h : spec_bdBand.f k l0 = some r) :
  Calls Try.prog 43 #[.slice A0 l0.length c0] w fun e w' => ∃ v0_ : Value, e = .returned (v0_) ∧ Kd.R kd_impl_Peg 41 w' w.heap.size (fun _ => True) v0_ r ∧ Below w.heap.size w w' := by
 have hu41 := Try.underlying41; have HR0 := aM hr0; have HC0 := aM hc0; clear hr0 hc0; have HB := aM (Below.refl w.heap.size w)
 unfold spec_bdBand.f at h; have H := h; clear h
 replace H := bS H; obtain ⟨t200, A2, H⟩ := H
 by_cases c3 : (t200.length : Int) < 3
 ·rw [if_pos c3] at H; have c3b0 := dE c3; have c3b1 : decide (t200.length < 3) = true := dE (by omega)
  clear c3; obtain rfl := Option.some.inj H
  go_enter Try.func43, Try.ntmps43
  go_wp2_with (first | ((with_reducible refine gC (f := 79) rfl ?_); refine goesL_ (some 10) rfl rfl Try.func79 kR rfl #[.slice A0 l0.length c0] rfl sQ ?_; (with_reducible refine (spec_bdSorted.calls k _ _ l0 t200 _ ?side1 ?side2 A2.out).mono ?_); (case side1 => repeat (first | exact HR0.out | (with_reducible refine cA ?_ _) | (with_reducible refine cN ?_ _) | (with_reducible refine cD ?_))); (case side2 => exact HC0.out); rintro e w4 ⟨v201, rfl, ho0, hb⟩; refine ⟨_, rfl, ?_⟩; have HO202 := aM (Kd.R_lower ho0 (pZ bQ)); replace HB := tB HB hb; (try clear hb); (try clear hb2); (try clear hk); (try clear hi); (try clear ho0); obtain ⟨Ao5, co5, eo5⟩ := Kd.R_slice HO202.out; subst eo5))
  go_ret
  exact ⟨_, by first | rfl | (simp [errW_none, errW_some] <;> rfl) | (simp [*, errW_none, errW_some] <;> rfl), by (with_reducible repeat (first | apply rA | apply rN | apply rD)); exact HO202.out, bQ⟩
 ·rw [if_neg c3] at H; have c3b0 := decide_eq_false c3; have c3b1 : decide (t200.length < 3) = false := decide_eq_false (by omega)
  clear c3; have H' := aM H; clear H
  go_enter Try.func43, Try.ntmps43
  go_wp2_with (first | ((with_reducible refine gC (f := 79) rfl ?_); refine goesL_ (some 10) rfl rfl Try.func79 kR rfl #[.slice A0 l0.length c0] rfl sQ ?_; (with_reducible refine (spec_bdSorted.calls k _ _ l0 t200 _ ?side1 ?side2 A2.out).mono ?_); (case side1 => repeat (first | exact HR0.out | (with_reducible refine cA ?_ _) | (with_reducible refine cN ?_ _) | (with_reducible refine cD ?_))); (case side2 => exact HC0.out); rintro e w6 ⟨v201, rfl, ho0, hb⟩; refine ⟨_, rfl, ?_⟩; have HO202 := aM (Kd.R_lower ho0 (pZ bQ)); replace HB := tB HB hb; (try clear hb); (try clear hb2); (try clear hk); (try clear hi); (try clear ho0); obtain ⟨Ao7, co7, eo7⟩ := Kd.R_slice HO202.out; subst eo7))
  go_loopg [4, 5] k (fun kq v4 v5 w' => ∃ (x4_1 : List (S_impl_Peg)) (x5_1 : Int), v5 = .int .i64 x5_1 ∧ Aside0 (spec_bdBand.l0 kq t200 x4_1 x5_1 = some r) ∧ Aside0 (kq ≤ k) ∧ Aside0 (Kd.R kd_impl_Peg 41 w' w.heap.size (fun k_ => some k_ ≠ (v4 : Value).ownBlock) (.slice Ao7 t200.length co7) t200) ∧ Aside0 (Kd.R kd_impl_Peg 41 w' w.heap.size (fun k_ => some k_ ≠ ((.slice Ao7 t200.length co7) : Value).ownBlock) v4 x4_1) ∧ Aside0 (Below w.heap.size w w'))
  case atStart => exact ⟨(([] : List (S_impl_Peg))), (0), eQ, H', ⟨Nat.le_refl _⟩, ⟨by (with_reducible repeat (first | apply rA | apply rN | apply rD)); exact Kd.R_mono HO202.out (fun _ hk => (by simp [Value.ownBlock]))⟩, ⟨by first | exact Kd.R_nil _ _ _ _ _ | exact Kd.N_nil _ _ _ _ _ | exact Kd.V_nil _ _ _ _ _ | exact Kd.Q_nil _ _ _ _ _ | exact Kd.S_nil _ _ _ _ _⟩, ⟨bQ⟩⟩
  case round =>
   clear H'; (try clear c3); (try clear c3b0); (try clear c3b1); obtain ⟨x4_1, x5_1, rfl, HA, HK1, HO_3, HO_4, HB⟩ := hrel
   cases gk with
   | zero => exact absurd HA.out (by simp [spec_bdBand.l0])
   | succ k1 =>
    have H := HA.out; clear HA
    simp only [spec_bdBand.l0] at H
    by_cases c8 : x5_1 < 2
    ·rw [if_pos c8] at H; have c8b0 := dE c8; clear c8; have H' := aM H; clear H; obtain ⟨Ao9, co9, eo9⟩ := Kd.R_slice HO_4.out; subst eo9; go_wp2
     go_loopg [4, 23] k1 (fun kq v4 v23 w' => ∃ (x4_2 : List (S_impl_Peg)) (x23_2 : Int), v23 = .int .i64 x23_2 ∧ Aside0 (spec_bdBand.l1 kq t200 x4_2 x5_1 (x4_1.length : Int) (t200.length : Int) x23_2 = some r) ∧ Aside0 (kq ≤ k1) ∧ Aside0 (Kd.R kd_impl_Peg 41 w' w.heap.size (fun k_ => some k_ ≠ (v4 : Value).ownBlock) (.slice Ao7 t200.length co7) t200) ∧ Aside0 (Kd.R kd_impl_Peg 41 w' w.heap.size (fun k_ => some k_ ≠ ((.slice Ao7 t200.length co7) : Value).ownBlock) v4 x4_2) ∧ Aside0 (Below w.heap.size w w'))
     case atStart => exact ⟨(x4_1), (0), eQ, H', ⟨Nat.le_refl _⟩, ⟨by (with_reducible repeat (first | apply rA | apply rN | apply rD)); exact HO_3.out⟩, ⟨by (with_reducible repeat (first | apply rA | apply rN | apply rD)); exact HO_4.out⟩, ⟨bQ⟩⟩
     case round =>
      clear H'; (try clear c3); (try clear c3b0); (try clear c3b1); (try clear c8); (try clear c8b0); obtain ⟨x4_2, x23_2, rfl, HA, HK2, HO_3, HO_4, HB⟩ := hrel
      cases gk with
      | zero => exact absurd HA.out (by simp [spec_bdBand.l1])
      | succ k2 =>
       have H := HA.out; clear HA
       simp only [spec_bdBand.l1] at H
       by_cases c10 : x23_2 < (t200.length : Int)
       ·rw [if_pos c10] at H; have c10b0 := dE c10; clear c10; replace H := iD H; obtain ⟨c11b0, H⟩ := H; replace H := iD H; obtain ⟨c12b0, H⟩ := H; have HC13 := aM H; clear H; have p206 : 0 ≤ (x23_2 : Int) := dT aQ; have q206 : x23_2 < (t200.length : Int) := dT aQ; obtain ⟨ad206, e206, hx206_0, hx206_1⟩ := at_impl_Peg (rR HO_3.out).2.2 x23_2 p206 q206
        cases e206
        replace p206 := eq_true p206; replace q206 := eq_true q206
        go_upto_if 31 with (first | ((with_reducible refine gate_dst (N := 8) rfl ?_); (try (refine gate_guard (by rfl) ?_; dsimp only)); refine bV 8 (cs := #[.int .i64 0, .int .i64 0]) (t := 41) rfl rfl (by first | (go_simp; done) | (go_simp; rfl)) ?_; intro gb207 hg w14 hbox hb; have n0_ := aM (Kd.R_below (Kd.R_elderB (by (with_reducible repeat (first | apply rA | apply rN | apply rD)); exact HO_3.out) gb207 (Nat.le_of_eq hg.symm)) hb); have n1_ := aM (Kd.R_below (Kd.R_elderB (by (with_reducible repeat (first | apply rA | apply rN | apply rD)); exact HO_4.out) gb207 (Nat.le_of_eq hg.symm)) hb); have n2_ := tB HB hb; have n3_ := hbox; have n4_ := gZ HB hg; have n5_ := gZ HB hg; clear HO_3; clear HO_4; clear HB; have HO_3 := n0_; have HO_4 := n1_; have HB := n2_; have BK207 := n3_; have GW207 := n4_; have GE207 := n5_; clear n0_ n1_ n2_ n3_ n4_ n5_; clear hb hbox hg; have hcz15_0 := vZ0 BK207; have hcz15_1 := vZ1 BK207; have hfz15_0 := kF BK207.out 0; have hfz15_1 := kF BK207.out 1))
        (try simp only [Act.put, sI, sZ, sS])
        go_cut [] (fun wc => ∃ (kq : Nat) (x208000_12 : Int) (x208001_12 : Int), Aside0 (spec_bdBand.j2 kq t200 x4_2 x5_1 (x4_1.length : Int) (t200.length : Int) x23_2 x208000_12 x208001_12 = some r) ∧ Aside0 (kq ≤ k2) ∧ Aside0 (Kd.R kd_impl_Peg 41 wc w.heap.size (fun k_ => some k_ ≠ (u4 : Value).ownBlock ∧ k_ ≠ gb207) (.slice (some ad206) t200.length co7) t200) ∧ Aside0 (Kd.R kd_impl_Peg 41 wc w.heap.size (fun k_ => some k_ ≠ ((.slice (some ad206) t200.length co7) : Value).ownBlock ∧ k_ ≠ gb207) u4 x4_2) ∧ Aside0 (wc.heap[gb207]? = some (.cells #[.int .i64 x208000_12, .int .i64 x208001_12] 41 (0, 0))) ∧ Aside0 (Below w.heap.size w wc))
        case first =>
         have H := HC13.out; clear HC13
         by_cases c16 : x5_1 = 1
         ·rw [if_pos c16] at H; have c16b0 : (x5_1 == 1) = true := beq_iff_eq.mpr c16; have c16b1 : (x5_1 != 1) = false := bne_eq_false_iff_eq.mpr c16; clear c16
          (first | rw [c16b0] | (simp only [i64_w, i32_w]; rw [c16b0]) | skip)
          obtain ⟨ji17, hji17⟩ : ∃ j_ : Int, (wrap64 ((wrap64 ((t200.length : Int) - 1)) - x23_2)) = j_ := ⟨_, rfl⟩
          (first | rw [hji17] at H | simp only [hji17] at H)
          have hji17w : (IntKind.i64.wrap ((wrap64 ((t200.length : Int) - 1)) - x23_2)) = ji17 := (i64_w _).trans hji17; replace H := iD H; obtain ⟨c18b0, H⟩ := H; replace H := iD H; obtain ⟨c19b0, H⟩ := H; have H' := aM H; clear H; have p208 : 0 ≤ ((ji17) : Int) := dT aQ; have q208 : (ji17) < (t200.length : Int) := dT aQ; obtain ⟨ad208, e208, hx208_0, hx208_1⟩ := at_impl_Peg (rR HO_3.out).2.2 (ji17) p208 q208; obtain rfl : ad206 = ad208 := (by injection e208)
          have hn208_0 : ad206.block ≠ gb207 := (by (try dsimp only); first | exact Kd.own_blk (Kd.R_ne HO_3.out BK207.out (by decide)) | exact oX (HO_3.out.1 _ rfl))
          have hn208_1 : ad206.block ≠ gb207 := (by (try dsimp only); first | exact Kd.own_blk (Kd.R_ne HO_3.out BK207.out (by decide)) | exact oX (HO_3.out.1 _ rfl))
          replace hx208_0 := (cell_far (p := ⟨gb207, 0, none⟩) (by first | (rw [add_block]; exact hn208_0) | (show (Addr.add _ _).block ≠ _; rw [add_block]; exact hn208_0) | exact hn208_0) (.int .i64 ((rd_impl_Peg t200 x23_2).f0))).trans hx208_0
          replace hx208_1 := (cell_far (p := ⟨gb207, 0, none⟩) (by first | (rw [add_block]; exact hn208_0) | (show (Addr.add _ _).block ≠ _; rw [add_block]; exact hn208_0) | exact hn208_0) (.int .i64 ((rd_impl_Peg t200 x23_2).f0))).trans hx208_1
          replace hx208_0 := (cell_far (p := ⟨gb207, 1, none⟩) (by first | (rw [add_block]; exact hn208_1) | (show (Addr.add _ _).block ≠ _; rw [add_block]; exact hn208_1) | exact hn208_1) (.int .i64 ((rd_impl_Peg t200 x23_2).f1))).trans hx208_0
          replace hx208_1 := (cell_far (p := ⟨gb207, 1, none⟩) (by first | (rw [add_block]; exact hn208_1) | (show (Addr.add _ _).block ≠ _; rw [add_block]; exact hn208_1) | exact hn208_1) (.int .i64 ((rd_impl_Peg t200 x23_2).f1))).trans hx208_1
          clear hn208_0; clear hn208_1; replace p208 := eq_true p208; replace q208 := eq_true q208; have hcz20_0 := vZ0 BK207; have hcz20_1 := vZ1 BK207; have hfz20_0 := kF BK207.out 0; have hfz20_1 := kF BK207.out 1; go_wp2
          go_meet
          case rel => exact ⟨_, ((rd_impl_Peg t200 (ji17)).f0), ((rd_impl_Peg t200 (ji17)).f1), H', ⟨by have := HK1.out; have := HK2.out; first | omega | exact Nat.le_refl _⟩, ⟨by (with_reducible repeat (first | apply rA | apply rN | apply rD)); exact Kd.R_mono (Kd.R_far (p := ⟨gb207, 1, none⟩) (Kd.R_far (p := ⟨gb207, 0, none⟩) (Kd.R_far (p := ⟨gb207, 1, none⟩) (Kd.R_far (p := ⟨gb207, 0, none⟩) (Kd.R_mono HO_3.out (fun k_ hk => (⟨hk, hk.2⟩ : _ ∧ k_ ≠ gb207))) (fun _ hk => hk.2) (.int .i64 ((rd_impl_Peg t200 x23_2).f0))) (fun _ hk => hk.2) (.int .i64 ((rd_impl_Peg t200 x23_2).f1))) (fun _ hk => hk.2) (.int .i64 ((rd_impl_Peg t200 (ji17)).f0))) (fun _ hk => hk.2) (.int .i64 ((rd_impl_Peg t200 (ji17)).f1))) (fun _ hk => ⟨hk.1.1, hk.1.2⟩)⟩, ⟨by (with_reducible repeat (first | apply rA | apply rN | apply rD)); exact Kd.R_mono (Kd.R_far (p := ⟨gb207, 1, none⟩) (Kd.R_far (p := ⟨gb207, 0, none⟩) (Kd.R_far (p := ⟨gb207, 1, none⟩) (Kd.R_far (p := ⟨gb207, 0, none⟩) (Kd.R_mono HO_4.out (fun k_ hk => (⟨hk, hk.2⟩ : _ ∧ k_ ≠ gb207))) (fun _ hk => hk.2) (.int .i64 ((rd_impl_Peg t200 x23_2).f0))) (fun _ hk => hk.2) (.int .i64 ((rd_impl_Peg t200 x23_2).f1))) (fun _ hk => hk.2) (.int .i64 ((rd_impl_Peg t200 (ji17)).f0))) (fun _ hk => hk.2) (.int .i64 ((rd_impl_Peg t200 (ji17)).f1))) (fun _ hk => ⟨hk.1.1, hk.1.2⟩)⟩, ⟨fQ BK207⟩, ⟨bE⟩⟩
         ·rw [if_neg c16] at H; have c16b0 : (x5_1 == 1) = false := beq_eq_false_iff_ne.mpr c16; have c16b1 : (x5_1 != 1) = true := bne_iff_ne.mpr c16
          (first | rw [c16b0] | (simp only [i64_w, i32_w]; rw [c16b0]) | skip)
          have H' := aM H; clear H; go_wp2
          go_meet
          case rel => exact ⟨_, ((rd_impl_Peg t200 x23_2).f0), ((rd_impl_Peg t200 x23_2).f1), H', ⟨by have := HK1.out; have := HK2.out; first | omega | exact Nat.le_refl _⟩, ⟨by (with_reducible repeat (first | apply rA | apply rN | apply rD)); exact Kd.R_mono (Kd.R_far (p := ⟨gb207, 1, none⟩) (Kd.R_far (p := ⟨gb207, 0, none⟩) (Kd.R_mono HO_3.out (fun k_ hk => (⟨hk, hk.2⟩ : _ ∧ k_ ≠ gb207))) (fun _ hk => hk.2) (.int .i64 ((rd_impl_Peg t200 x23_2).f0))) (fun _ hk => hk.2) (.int .i64 ((rd_impl_Peg t200 x23_2).f1))) (fun _ hk => ⟨hk.1.1, hk.1.2⟩)⟩, ⟨by (with_reducible repeat (first | apply rA | apply rN | apply rD)); exact Kd.R_mono (Kd.R_far (p := ⟨gb207, 1, none⟩) (Kd.R_far (p := ⟨gb207, 0, none⟩) (Kd.R_mono HO_4.out (fun k_ hk => (⟨hk, hk.2⟩ : _ ∧ k_ ≠ gb207))) (fun _ hk => hk.2) (.int .i64 ((rd_impl_Peg t200 x23_2).f0))) (fun _ hk => hk.2) (.int .i64 ((rd_impl_Peg t200 x23_2).f1))) (fun _ hk => ⟨hk.1.1, hk.1.2⟩)⟩, ⟨fQ BK207⟩, ⟨bE⟩⟩
        case rest =>
         clear HC13; (try clear c3); (try clear c3b0); (try clear c3b1); (try clear c8); (try clear c8b0); (try clear c10); (try clear c10b0); (try clear c11b0); (try clear c12b0); (try clear hcz15_0); (try clear hcz15_1); (try clear hfz15_0); (try clear hfz15_1); (try clear hx206_0); (try clear hx206_1); (try clear p206); (try clear q206); obtain ⟨kq, x208000_12, x208001_12, HA, HJ12, HO_3, HO_4, BK207, HB⟩ := hcut
         cases kq with
         | zero => exact absurd HA.out (by simp [spec_bdBand.j2])
         | succ kj12 =>
          have H := HA.out; clear HA
          simp only [spec_bdBand.j2] at H
          have H' := aM H; clear H; go_wp2
          go_loopg [4] kj12 (fun kq v4 w' => ∃ (x4_4 : List (S_impl_Peg)), Aside0 (spec_bdBand.l2 kq t200 x4_4 x5_1 (x4_1.length : Int) (t200.length : Int) x23_2 x208000_12 x208001_12 = some r) ∧ Aside0 (kq ≤ kj12) ∧ Aside0 (Kd.R kd_impl_Peg 41 w' w.heap.size (fun k_ => some k_ ≠ (v4 : Value).ownBlock ∧ k_ ≠ gb207) (.slice (some ad206) t200.length co7) t200) ∧ Aside0 (Kd.R kd_impl_Peg 41 w' w.heap.size (fun k_ => some k_ ≠ ((.slice (some ad206) t200.length co7) : Value).ownBlock ∧ k_ ≠ gb207) v4 x4_4) ∧ Aside0 (w'.heap[gb207]? = some (.cells #[.int .i64 x208000_12, .int .i64 x208001_12] 41 (0, 0))) ∧ Aside0 (Below w.heap.size w w'))
          case atStart => exact ⟨(x4_2), H', ⟨Nat.le_refl _⟩, ⟨by (with_reducible repeat (first | apply rA | apply rN | apply rD)); exact HO_3.out⟩, ⟨by (with_reducible repeat (first | apply rA | apply rN | apply rD)); exact HO_4.out⟩, ⟨gQ BK207⟩, ⟨bE⟩⟩
          case round =>
           clear H'; (try clear c3); (try clear c3b0); (try clear c3b1); (try clear c8); (try clear c8b0); (try clear c10); (try clear c10b0); (try clear c11b0); (try clear c12b0); (try clear hcz15_0); (try clear hcz15_1); (try clear hfz15_0); (try clear hfz15_1); (try clear hx206_0); (try clear hx206_1); (try clear p206); (try clear q206); obtain ⟨x4_4, HA, HK4, HO_3, HO_4, BK207, HB⟩ := hrel
           cases gk with
           | zero => exact absurd HA.out (by simp [spec_bdBand.l2])
           | succ k4 =>
            have H := HA.out; clear HA
            simp only [spec_bdBand.l2] at H
            by_cases c21 : (x4_4.length : Int) > (wrap64 ((x4_1.length : Int) + 1))
            ·rw [if_pos c21] at H; have c21b0 := dE c21; clear c21; obtain ⟨ji22, hji22⟩ : ∃ j_ : Int, (wrap64 ((x4_4.length : Int) - 2)) = j_ := ⟨_, rfl⟩
             (first | rw [hji22] at H | simp only [hji22] at H)
             have hji22w : (IntKind.i64.wrap ((x4_4.length : Int) - 2)) = ji22 := (i64_w _).trans hji22; replace H := iD H; obtain ⟨c23b0, H⟩ := H; replace H := iD H; obtain ⟨c24b0, H⟩ := H; obtain ⟨ji25, hji25⟩ : ∃ j_ : Int, (wrap64 ((x4_4.length : Int) - 1)) = j_ := ⟨_, rfl⟩
             (first | rw [hji25] at H | simp only [hji25] at H)
             have hji25w : (IntKind.i64.wrap ((x4_4.length : Int) - 1)) = ji25 := (i64_w _).trans hji25; replace H := iD H; obtain ⟨c26b0, H⟩ := H; replace H := iD H; obtain ⟨c27b0, H⟩ := H; replace H := bS H; obtain ⟨t211, A28, H⟩ := H
             by_cases c29 : t211 ≤ 0
             ·rw [if_pos c29] at H; have c29b0 := dE c29; clear c29; replace H := iN H; obtain ⟨c30, H⟩ := H; have c30b0 := eq_true c30; have c30b1 := dE c30; clear c30; obtain ⟨y212, hy212⟩ : ∃ y_ : List (S_impl_Peg), y_ = (x4_4.take ((ji25) : Int).toNat) := ⟨_, rfl⟩; rw [← hy212] at H; have Ny212 := aM hy212; clear hy212; have H' := aM H; clear H
              try go_wp2
              replace HO_3 := aM (rD HO_3.out); replace HO_4 := aM (rD HO_4.out); replace BK207 := aM (kD BK207.out); replace HB := aM (pD HB.out); obtain ⟨Ao32, co32, eo32⟩ := Kd.R_slice HO_4.out
              (first | subst eo32 | (injection eo32 with f1_ f2_ f3_; have f4_ := f1_.symm; have f5_ := f3_.symm; clear f1_ f2_ f3_; subst f4_; subst f5_))
              have p209 : 0 ≤ ((ji22) : Int) := dT aQ; have q209 : (ji22) < (x4_4.length : Int) := dT aQ; obtain ⟨ad209, e209, hx209_0, hx209_1⟩ := at_impl_Peg (rR HO_4.out).2.2 (ji22) p209 q209
              cases e209
              replace p209 := eq_true p209; replace q209 := eq_true q209; have p210 : 0 ≤ ((ji25) : Int) := dT aQ; have q210 : (ji25) < (x4_4.length : Int) := dT aQ; obtain ⟨ad210, e210, hx210_0, hx210_1⟩ := at_impl_Peg (rR HO_4.out).2.2 (ji25) p210 q210; obtain rfl : ad209 = ad210 := (by injection e210)
              replace p210 := eq_true p210; replace q210 := eq_true q210
              refine start_ (n := 22) (S := fun w' => w'.cell? ⟨gb207, 0, none⟩ = some (.int .i64 x208000_12) ∧ w'.cell? ⟨gb207, 1, none⟩ = some (.int .i64 x208001_12) ∧ w'.cell? (ad209.add (((ji22)).toNat * 2)) = some (.int .i64 ((rd_impl_Peg x4_4 (ji22)).f0)) ∧ w'.cell? ⟨(ad209.add (((ji22)).toNat * 2)).block, (ad209.add (((ji22)).toNat * 2)).off + 1, none⟩ = some (.int .i64 ((rd_impl_Peg x4_4 (ji22)).f1)) ∧ w'.cell? (ad209.add (((ji25)).toNat * 2)) = some (.int .i64 ((rd_impl_Peg x4_4 (ji25)).f0)) ∧ w'.cell? ⟨(ad209.add (((ji25)).toNat * 2)).block, (ad209.add (((ji25)).toNat * 2)).off + 1, none⟩ = some (.int .i64 ((rd_impl_Peg x4_4 (ji25)).f1))) (ds := []) (bA 22 0) kR rfl kR ⟨vZ0 BK207, vZ1 BK207, hx209_0, hx209_1, hx210_0, hx210_1⟩ (fun hHeld => ?_); refine with_tabW spec_bdBand.tab15 spec_bdBand.bits15 (fun HT_ HW_ => ?_)
              generalize wr.drew = w31 at HO_3 HO_4 BK207 HB hx209_0 hx209_1 hx210_0 hx210_1 hHeld ⊢
              refine pU 0 40 (bA 22 1) HT_ ?_; refine pU 1 41 (bA 22 3) HT_ ?_; refine pU 2 42 (bA 22 7) HT_ ?_; refine pU 3 43 (bA 22 15) HT_ ?_; refine pU 4 44 (bA 22 31) HT_ ?_; refine pU 5 45 (bA 22 63) HT_ ?_; refine pU 6 46 (bA 22 127) HT_ ?_; refine pU 7 47 (bA 22 255) HT_ ?_; refine pU 8 48 (bA 22 511) HT_ ?_; refine pU 9 49 (bA 22 1023) HT_ ?_; refine pU 10 50 (bA 22 2047) HT_ ?_; refine pU 12 52 (bA 22 6143) HT_ ?_; refine pU 13 53 (bA 22 14335) HT_ ?_; refine pU 14 54 (bA 22 30719) HT_ ?_; refine pU 15 55 (bA 22 63487) HT_ ?_; refine pU 16 56 (bA 22 129023) HT_ ?_
              refine tU 11 51 (bA 22 131071) HT_ HW_ hHeld ?_ (hy := Or.inl ⟨by rfl, by rintro w' ⟨s0, s1, s2, s3, s4, s5⟩; go_simp; with_reducible rfl⟩)
              refine tU 17 57 (bA 22 262143) HT_ HW_ hHeld ?_ (hy := Or.inl ⟨by rfl, by rintro w' ⟨s0, s1, s2, s3, s4, s5⟩; go_simp; with_reducible rfl⟩)
              refine tU 18 58 (bA 22 524287) HT_ HW_ hHeld ?_ (hy := Or.inl ⟨by rfl, by rintro w' ⟨s0, s1, s2, s3, s4, s5⟩; go_simp; with_reducible rfl⟩)
              refine oU 19 59 (bA 22 1048575) HT_ (fun K hK => ?_)
              refine goes_ Try.func80 kR rfl #[.agg #[.int .i64 ((rd_impl_Peg x4_4 (ji22)).f0), .int .i64 ((rd_impl_Peg x4_4 (ji22)).f1)], .agg #[.int .i64 ((rd_impl_Peg x4_4 (ji25)).f0), .int .i64 ((rd_impl_Peg x4_4 (ji25)).f1)], .agg #[.int .i64 x208000_12, .int .i64 x208001_12]] (by rfl) rfl rfl (by (try simp only [mA, mC, mN]); first | done | (simp only [hji22, hji25]; rfl) | rfl | (simp only [lD, lT]; rfl)) ?_
              with_reducible refine (spec_pgTurn.calls ((rd_impl_Peg x4_4 (ji22)).f0) ((rd_impl_Peg x4_4 (ji22)).f1) ((rd_impl_Peg x4_4 (ji25)).f0) ((rd_impl_Peg x4_4 (ji25)).f1) x208000_12 x208001_12 t211 _ A28.out).mono ?_
              rintro e w33 ⟨rfl, hb⟩; have HS2_ := (hb.cell (wB _ _ (hHeld.2.2.1))).trans (hHeld.2.2.1); have HS3_ := (hb.cell (wB _ _ (hHeld.2.2.2.1))).trans (hHeld.2.2.2.1); have HS4_ := (hb.cell (wB _ _ (hHeld.2.2.2.2.1))).trans (hHeld.2.2.2.2.1); have HS5_ := (hb.cell (wB _ _ (hHeld.2.2.2.2.2))).trans (hHeld.2.2.2.2.2); refine ⟨_, rfl, ?_⟩; replace HO_3 := aM (Kd.R_below (by (with_reducible repeat (first | apply rA | apply rN | apply rD)); exact HO_3.out) hb); replace HO_4 := aM (Kd.R_below (by (with_reducible repeat (first | apply rA | apply rN | apply rD)); exact HO_4.out) hb); replace BK207 := bB BK207 hb; replace HB := tB HB hb
              (try clear hb); (try clear hb2); (try clear hk); (try clear hi)
              refine hK.out _ _ ⟨vZ0 BK207, vZ1 BK207, HS2_, HS3_, HS4_, HS5_⟩ (fun hHeld => ?_)
              clear hK K
              refine nU ?_
              refine pU 20 60 (bA 22 2097151) HT_ ?_; refine pU 21 61 (bA 22 4194303) HT_ ?_
              refine done_ (done_of HT_.out kR) ?_
              have q34 : ((ji25) : Int) ≤ ((x4_4.length : Int) : Int) := dT aQ; obtain ⟨i034, hi034, _, hsz34, _⟩ := info_parts info41; have hcut34 := cut_to (P := Try.prog) 26 41 .i64 Try.underlying26 hi034 (some ad209) x4_4.length co32 (ji25) (dT aQ) q34 (rR HO_4.out).2.1; have hr34 := Kd.R_take (m := ((ji25) : Int).toNat) HO_4.out (by omega)
              have hy34 : y212.length = ((ji25) : Int).toNat := (by rw [Ny212.out, lT]; omega)
              rw [← Ny212.out] at hr34; rw [← hy34] at hr34 hcut34; clear hy34 hi034 hsz34 HO_4; have HO214 := aM hr34; clear hr34; replace q34 := eq_true q34
              try go_wp2
              go_roundg k4
              case measure => have := HK1.out; have := HK2.out; have := HJ12.out; have := HK4.out; omega
              case rel => exact ⟨(y212), H', ⟨by have := HK1.out; have := HK2.out; have := HJ12.out; have := HK4.out; omega⟩, ⟨by (with_reducible repeat (first | apply rA | apply rN | apply rD)); first | exact HO_3.out | exact Kd.R_mono HO_3.out (fun k_ hk => by rw [ownb0] at hk ⊢; exact hk)⟩, ⟨by (with_reducible repeat (first | apply rA | apply rN | apply rD)); exact HO214.out⟩, ⟨gQ BK207⟩, ⟨bE⟩⟩
             ·rw [if_neg c29] at H; have c29b0 := decide_eq_false c29; clear c29; replace H := iN H; obtain ⟨c35, H⟩ := H; have LMc35 := aM c35; clear c35; obtain ⟨y215, hy215⟩ : ∃ y_ : List (S_impl_Peg), y_ = (x4_4 ++ [(⟨x208000_12, x208001_12⟩ : S_impl_Peg)]) := ⟨_, rfl⟩; rw [← hy215] at H; have Ny215 := aM hy215; clear hy215; have H' := aM H; clear H
              try go_wp2
              replace HO_3 := aM (rD HO_3.out); replace HO_4 := aM (rD HO_4.out); replace BK207 := aM (kD BK207.out); replace HB := aM (pD HB.out); obtain ⟨Ao37, co37, eo37⟩ := Kd.R_slice HO_4.out
              (first | subst eo37 | (injection eo37 with f1_ f2_ f3_; have f4_ := f1_.symm; have f5_ := f3_.symm; clear f1_ f2_ f3_; subst f4_; subst f5_))
              have p209 : 0 ≤ ((ji22) : Int) := dT aQ; have q209 : (ji22) < (x4_4.length : Int) := dT aQ; obtain ⟨ad209, e209, hx209_0, hx209_1⟩ := at_impl_Peg (rR HO_4.out).2.2 (ji22) p209 q209
              cases e209
              replace p209 := eq_true p209; replace q209 := eq_true q209; have p210 : 0 ≤ ((ji25) : Int) := dT aQ; have q210 : (ji25) < (x4_4.length : Int) := dT aQ; obtain ⟨ad210, e210, hx210_0, hx210_1⟩ := at_impl_Peg (rR HO_4.out).2.2 (ji25) p210 q210; obtain rfl : ad209 = ad210 := (by injection e210)
              replace p210 := eq_true p210; replace q210 := eq_true q210
              refine start_ (n := 22) (S := fun w' => w'.cell? ⟨gb207, 0, none⟩ = some (.int .i64 x208000_12) ∧ w'.cell? ⟨gb207, 1, none⟩ = some (.int .i64 x208001_12) ∧ w'.cell? (ad209.add (((ji22)).toNat * 2)) = some (.int .i64 ((rd_impl_Peg x4_4 (ji22)).f0)) ∧ w'.cell? ⟨(ad209.add (((ji22)).toNat * 2)).block, (ad209.add (((ji22)).toNat * 2)).off + 1, none⟩ = some (.int .i64 ((rd_impl_Peg x4_4 (ji22)).f1)) ∧ w'.cell? (ad209.add (((ji25)).toNat * 2)) = some (.int .i64 ((rd_impl_Peg x4_4 (ji25)).f0)) ∧ w'.cell? ⟨(ad209.add (((ji25)).toNat * 2)).block, (ad209.add (((ji25)).toNat * 2)).off + 1, none⟩ = some (.int .i64 ((rd_impl_Peg x4_4 (ji25)).f1))) (ds := []) (bA 22 0) kR rfl kR ⟨vZ0 BK207, vZ1 BK207, hx209_0, hx209_1, hx210_0, hx210_1⟩ (fun hHeld => ?_); refine with_tabW spec_bdBand.tab15 spec_bdBand.bits15 (fun HT_ HW_ => ?_)
              generalize wr.drew = w36 at HO_3 HO_4 BK207 HB hx209_0 hx209_1 hx210_0 hx210_1 hHeld ⊢
              refine pU 0 40 (bA 22 1) HT_ ?_; refine pU 1 41 (bA 22 3) HT_ ?_; refine pU 2 42 (bA 22 7) HT_ ?_; refine pU 3 43 (bA 22 15) HT_ ?_; refine pU 4 44 (bA 22 31) HT_ ?_; refine pU 5 45 (bA 22 63) HT_ ?_; refine pU 6 46 (bA 22 127) HT_ ?_; refine pU 7 47 (bA 22 255) HT_ ?_; refine pU 8 48 (bA 22 511) HT_ ?_; refine pU 9 49 (bA 22 1023) HT_ ?_; refine pU 10 50 (bA 22 2047) HT_ ?_; refine pU 12 52 (bA 22 6143) HT_ ?_; refine pU 13 53 (bA 22 14335) HT_ ?_; refine pU 14 54 (bA 22 30719) HT_ ?_; refine pU 15 55 (bA 22 63487) HT_ ?_; refine pU 16 56 (bA 22 129023) HT_ ?_
              refine tU 11 51 (bA 22 131071) HT_ HW_ hHeld ?_ (hy := Or.inl ⟨by rfl, by rintro w' ⟨s0, s1, s2, s3, s4, s5⟩; go_simp; with_reducible rfl⟩)
              refine tU 17 57 (bA 22 262143) HT_ HW_ hHeld ?_ (hy := Or.inl ⟨by rfl, by rintro w' ⟨s0, s1, s2, s3, s4, s5⟩; go_simp; with_reducible rfl⟩)
              refine tU 18 58 (bA 22 524287) HT_ HW_ hHeld ?_ (hy := Or.inl ⟨by rfl, by rintro w' ⟨s0, s1, s2, s3, s4, s5⟩; go_simp; with_reducible rfl⟩)
              refine oU 19 59 (bA 22 1048575) HT_ (fun K hK => ?_)
              refine goes_ Try.func80 kR rfl #[.agg #[.int .i64 ((rd_impl_Peg x4_4 (ji22)).f0), .int .i64 ((rd_impl_Peg x4_4 (ji22)).f1)], .agg #[.int .i64 ((rd_impl_Peg x4_4 (ji25)).f0), .int .i64 ((rd_impl_Peg x4_4 (ji25)).f1)], .agg #[.int .i64 x208000_12, .int .i64 x208001_12]] (by rfl) rfl rfl (by (try simp only [mA, mC, mN]); first | done | (simp only [hji22, hji25]; rfl) | rfl | (simp only [lD, lT]; rfl)) ?_
              with_reducible refine (spec_pgTurn.calls ((rd_impl_Peg x4_4 (ji22)).f0) ((rd_impl_Peg x4_4 (ji22)).f1) ((rd_impl_Peg x4_4 (ji25)).f0) ((rd_impl_Peg x4_4 (ji25)).f1) x208000_12 x208001_12 t211 _ A28.out).mono ?_
              rintro e w38 ⟨rfl, hb⟩; have HS2_ := (hb.cell (wB _ _ (hHeld.2.2.1))).trans (hHeld.2.2.1); have HS3_ := (hb.cell (wB _ _ (hHeld.2.2.2.1))).trans (hHeld.2.2.2.1); have HS4_ := (hb.cell (wB _ _ (hHeld.2.2.2.2.1))).trans (hHeld.2.2.2.2.1); have HS5_ := (hb.cell (wB _ _ (hHeld.2.2.2.2.2))).trans (hHeld.2.2.2.2.2); refine ⟨_, rfl, ?_⟩; replace HO_3 := aM (Kd.R_below (by (with_reducible repeat (first | apply rA | apply rN | apply rD)); exact HO_3.out) hb); replace HO_4 := aM (Kd.R_below (by (with_reducible repeat (first | apply rA | apply rN | apply rD)); exact HO_4.out) hb); replace BK207 := bB BK207 hb; replace HB := tB HB hb
              (try clear hb); (try clear hb2); (try clear hk); (try clear hi)
              refine hK.out _ _ ⟨vZ0 BK207, vZ1 BK207, HS2_, HS3_, HS4_, HS5_⟩ (fun hHeld => ?_)
              clear hK K
              refine nU ?_
              refine pU 20 60 (bA 22 2097151) HT_ ?_; refine pU 21 61 (bA 22 4194303) HT_ ?_
              refine done_ (done_of HT_.out kR) ?_
              have hcz39_0 := vZ0 BK207; have hcz39_1 := vZ1 BK207; have hfz39_0 := kF BK207.out 0; have hfz39_1 := kF BK207.out 1
              try go_wp2_with (first | ((with_reducible refine gate_builtin (b := .append) (xs := #[.tmp 67, .tmp 69]) rfl ?_); (try (refine gate_guard (by rfl) ?_; dsimp only)); at_builtin; refine Kd.R_append kd_impl_Peg (w0 := w) w.heap.size rfl (.tmp 67) (.tmp 69) 26 41 (.agg #[(.int .i64 0), (.int .i64 0)]) 16 rfl Try.underlying26 info41 rfl (by decide) (by omega) (.slice (some ad209) x4_4.length co37) x4_4 (⟨x208000_12, x208001_12⟩ : S_impl_Peg) [.int .i64 x208000_12, .int .i64 x208001_12] (fun k_ => some k_ ≠ (.slice (some ad206) t200.length co7 : Value).ownBlock ∧ k_ ≠ gb207) (fun _ => False) rfl rfl ?aP (fun _ hk => hk.elim) ?aF ?aO ?aB ?aS ?aL ?_; (case aP => exact kd_impl_Peg_mkM _ _ _ (⟨x208000_12, x208001_12⟩ : S_impl_Peg)); (case aB => exact bE); (case aF => exact (fun k_ hk => ⟨Kd.fresh' (Kd.R_lt (by (with_reducible repeat (first | apply rA | apply rN | apply rD)); exact HO_3.out)) k_ hk, Kd.freshB (g := gb207) (o := .cells #[.int .i64 x208000_12, .int .i64 x208001_12] 41 (0, 0)) (gQ BK207) k_ hk⟩)); (case aO => exact (by (with_reducible repeat (first | apply rA | apply rN | apply rD)); exact HO_4.out)); (case aS => exact (pZ bE)); (case aL => have := LMc35.out; omega); intro v216 w40 ho hb hg hat; rw [← Ny215.out] at ho; have n0_ := aM (Kd.R_after (ok := (fun k_ => k_ ≠ gb207)) (by (with_reducible repeat (first | apply rA | apply rN | apply rD)); exact Kd.R_mono HO_3.out (fun _ hk => ⟨hk.2, hk.1⟩)) hg hat); have n1_ := aM (blk_grown (g := gb207) (o := .cells #[.int .i64 x208000_12, .int .i64 x208001_12] 41 (0, 0)) (gQ BK207) hg (Kd.R_away HO_4.out (fun _ hk => hk.2))); have n2_ := aM (hb); have n3_ := aM (ho); clear HO_3; clear BK207; clear HB; clear HO_4; have HO_3 := n0_; have BK207 := n1_; have HB := n2_; have HO217 := n3_; clear n0_ n1_ n2_ n3_; clear ho hb hg hat))
              go_roundg k4
              case measure => have := HK1.out; have := HK2.out; have := HJ12.out; have := HK4.out; omega
              case rel => exact ⟨(y215), (wrap64 (x23_2 + 1)), eQ, H', ⟨by have := HK1.out; have := HK2.out; have := HJ12.out; have := HK4.out; omega⟩, ⟨by (with_reducible repeat (first | apply rA | apply rN | apply rD)); exact Kd.R_mono HO_3.out (fun _ hk => hk.2)⟩, ⟨by (with_reducible repeat (first | apply rA | apply rN | apply rD)); exact Kd.R_mono HO217.out (fun _ hk => hk.1)⟩, ⟨bE⟩⟩
            ·rw [if_neg c21] at H; have c21b0 := decide_eq_false c21; clear c21; replace H := iN H; obtain ⟨c41, H⟩ := H; have LMc41 := aM c41; clear c41; obtain ⟨y218, hy218⟩ : ∃ y_ : List (S_impl_Peg), y_ = (x4_4 ++ [(⟨x208000_12, x208001_12⟩ : S_impl_Peg)]) := ⟨_, rfl⟩; rw [← hy218] at H; have Ny218 := aM hy218; clear hy218; have H' := aM H; clear H
             try go_wp2
             replace HO_3 := aM (rD HO_3.out); replace HO_4 := aM (rD HO_4.out); replace BK207 := aM (kD BK207.out); replace HB := aM (pD HB.out); obtain ⟨Ao43, co43, eo43⟩ := Kd.R_slice HO_4.out
             (first | subst eo43 | (injection eo43 with f1_ f2_ f3_; have f4_ := f1_.symm; have f5_ := f3_.symm; clear f1_ f2_ f3_; subst f4_; subst f5_))
             refine start_ (n := 22) (S := fun w' => True) (ds := []) (bA 22 0) kR rfl kR trivial (fun hHeld => ?_); refine with_tabW spec_bdBand.tab15 spec_bdBand.bits15 (fun HT_ HW_ => ?_)
             generalize wr.drew = w42 at HO_3 HO_4 BK207 HB hHeld ⊢
             refine pU 0 40 (bA 22 1) HT_ ?_; refine pU 1 41 (bA 22 3) HT_ ?_; refine pU 2 42 (bA 22 7) HT_ ?_; refine pU 3 43 (bA 22 15) HT_ ?_; refine pU 4 44 (bA 22 31) HT_ ?_; refine pU 5 45 (bA 22 63) HT_ ?_; refine pU 6 46 (bA 22 127) HT_ ?_ (hy := Or.inr ⟨by rfl, rfl⟩)
             refine pU 7 47 (bA 22 255) HT_ ?_ (hy := Or.inr ⟨by rfl, rfl⟩)
             refine pU 8 48 (bA 22 511) HT_ ?_ (hy := Or.inr ⟨by rfl, rfl⟩)
             refine pU 9 49 (bA 22 1023) HT_ ?_ (hy := Or.inr ⟨by rfl, rfl⟩)
             refine pU 10 50 (bA 22 2047) HT_ ?_ (hy := Or.inr ⟨by rfl, rfl⟩)
             refine pU 11 51 (bA 22 4095) HT_ ?_ (hy := Or.inr ⟨by rfl, rfl⟩)
             refine pU 12 52 (bA 22 8191) HT_ ?_ (hy := Or.inr ⟨by rfl, rfl⟩)
             refine pU 13 53 (bA 22 16383) HT_ ?_ (hy := Or.inr ⟨by rfl, rfl⟩)
             refine pU 14 54 (bA 22 32767) HT_ ?_ (hy := Or.inr ⟨by rfl, rfl⟩)
             refine pU 15 55 (bA 22 65535) HT_ ?_ (hy := Or.inr ⟨by rfl, rfl⟩)
             refine pU 16 56 (bA 22 131071) HT_ ?_ (hy := Or.inr ⟨by rfl, rfl⟩)
             refine pU 17 57 (bA 22 262143) HT_ ?_ (hy := Or.inr ⟨by rfl, rfl⟩)
             refine pU 18 58 (bA 22 524287) HT_ ?_ (hy := Or.inr ⟨by rfl, rfl⟩)
             refine pU 19 59 (bA 22 1048575) HT_ ?_ (hy := Or.inr ⟨by rfl, rfl⟩)
             refine pU 20 60 (bA 22 2097151) HT_ ?_ (hy := Or.inr ⟨by rfl, rfl⟩)
             refine pU 21 61 (bA 22 4194303) HT_ ?_
             refine done_ (done_of HT_.out kR) ?_
             have hcz44_0 := vZ0 BK207; have hcz44_1 := vZ1 BK207; have hfz44_0 := kF BK207.out 0; have hfz44_1 := kF BK207.out 1
             try go_wp2_with (first | ((with_reducible refine gate_builtin (b := .append) (xs := #[.tmp 67, .tmp 69]) rfl ?_); (try (refine gate_guard (by rfl) ?_; dsimp only)); at_builtin; refine Kd.R_append kd_impl_Peg (w0 := w) w.heap.size rfl (.tmp 67) (.tmp 69) 26 41 (.agg #[(.int .i64 0), (.int .i64 0)]) 16 rfl Try.underlying26 info41 rfl (by decide) (by omega) (.slice Ao43 x4_4.length co43) x4_4 (⟨x208000_12, x208001_12⟩ : S_impl_Peg) [.int .i64 x208000_12, .int .i64 x208001_12] (fun k_ => some k_ ≠ (.slice (some ad206) t200.length co7 : Value).ownBlock ∧ k_ ≠ gb207) (fun _ => False) rfl rfl ?aP (fun _ hk => hk.elim) ?aF ?aO ?aB ?aS ?aL ?_; (case aP => exact kd_impl_Peg_mkM _ _ _ (⟨x208000_12, x208001_12⟩ : S_impl_Peg)); (case aB => exact bE); (case aF => exact (fun k_ hk => ⟨Kd.fresh' (Kd.R_lt (by (with_reducible repeat (first | apply rA | apply rN | apply rD)); exact HO_3.out)) k_ hk, Kd.freshB (g := gb207) (o := .cells #[.int .i64 x208000_12, .int .i64 x208001_12] 41 (0, 0)) (gQ BK207) k_ hk⟩)); (case aO => exact (by (with_reducible repeat (first | apply rA | apply rN | apply rD)); exact HO_4.out)); (case aS => exact (pZ bE)); (case aL => have := LMc41.out; omega); intro v219 w45 ho hb hg hat; rw [← Ny218.out] at ho; have n0_ := aM (Kd.R_after (ok := (fun k_ => k_ ≠ gb207)) (by (with_reducible repeat (first | apply rA | apply rN | apply rD)); exact Kd.R_mono HO_3.out (fun _ hk => ⟨hk.2, hk.1⟩)) hg hat); have n1_ := aM (blk_grown (g := gb207) (o := .cells #[.int .i64 x208000_12, .int .i64 x208001_12] 41 (0, 0)) (gQ BK207) hg (Kd.R_away HO_4.out (fun _ hk => hk.2))); have n2_ := aM (hb); have n3_ := aM (ho); clear HO_3; clear BK207; clear HB; clear HO_4; have HO_3 := n0_; have BK207 := n1_; have HB := n2_; have HO220 := n3_; clear n0_ n1_ n2_ n3_; clear ho hb hg hat))
             go_roundg k4
             case measure => have := HK1.out; have := HK2.out; have := HJ12.out; have := HK4.out; omega
             case rel => exact ⟨(y218), (wrap64 (x23_2 + 1)), eQ, H', ⟨by have := HK1.out; have := HK2.out; have := HJ12.out; have := HK4.out; omega⟩, ⟨by (with_reducible repeat (first | apply rA | apply rN | apply rD)); exact Kd.R_mono HO_3.out (fun _ hk => hk.2)⟩, ⟨by (with_reducible repeat (first | apply rA | apply rN | apply rD)); exact Kd.R_mono HO220.out (fun _ hk => hk.1)⟩, ⟨bE⟩⟩
       ·rw [if_neg c10] at H; have c10b0 := decide_eq_false c10; clear c10; obtain ⟨ji46, hji46⟩ : ∃ j_ : Int, (wrap64 ((x4_2.length : Int) - 1)) = j_ := ⟨_, rfl⟩
        (first | rw [hji46] at H | simp only [hji46] at H)
        have hji46w : (IntKind.i64.wrap ((x4_2.length : Int) - 1)) = ji46 := (i64_w _).trans hji46; replace H := iN H; obtain ⟨c47, H⟩ := H; have c47b0 := eq_true c47; have c47b1 := dE c47; clear c47; replace H := iN H; obtain ⟨c48, H⟩ := H; have c48b0 := eq_true c48; have c48b1 := dE c48; clear c48; obtain ⟨y203, hy203⟩ : ∃ y_ : List (S_impl_Peg), y_ = (x4_2.take ((ji46) : Int).toNat) := ⟨_, rfl⟩; rw [← hy203] at H; have Ny203 := aM hy203; clear hy203; have H' := aM H; clear H; obtain ⟨Ao49, co49, eo49⟩ := Kd.R_slice HO_4.out; subst eo49; have q50 : ((ji46) : Int) ≤ ((x4_2.length : Int) : Int) := dT aQ; obtain ⟨i050, hi050, _, hsz50, _⟩ := info_parts info41; have hcut50 := cut_to (P := Try.prog) 26 41 .i64 Try.underlying26 hi050 Ao49 x4_2.length co49 (ji46) (dT aQ) q50 (rR HO_4.out).2.1; have hr50 := Kd.R_take (m := ((ji46) : Int).toNat) HO_4.out (by omega)
        have hy50 : y203.length = ((ji46) : Int).toNat := (by rw [Ny203.out, lT]; omega)
        rw [← Ny203.out] at hr50; rw [← hy50] at hr50 hcut50; clear hy50 hi050 hsz50 HO_4; have HO205 := aM hr50; clear hr50; replace q50 := eq_true q50; go_wp2
        go_roundg k2
        case measure => have := HK1.out; have := HK2.out; omega
        case rel => exact ⟨(y203), (wrap64 (x5_1 + 1)), eQ, H', ⟨by have := HK1.out; have := HK2.out; omega⟩, ⟨by (with_reducible repeat (first | apply rA | apply rN | apply rD)); first | exact HO_3.out | exact Kd.R_mono HO_3.out (fun k_ hk => by rw [ownb0] at hk ⊢; exact hk)⟩, ⟨by (with_reducible repeat (first | apply rA | apply rN | apply rD)); exact HO205.out⟩, ⟨bQ⟩⟩
    ·rw [if_neg c8] at H; have c8b0 := decide_eq_false c8; clear c8; obtain rfl := Option.some.inj H; go_wp2
     go_ret
     exact ⟨_, by first | rfl | (simp [errW_none, errW_some] <;> rfl) | (simp [*, errW_none, errW_some] <;> rfl), by (with_reducible repeat (first | apply rA | apply rN | apply rD)); exact Kd.R_mono HO_4.out (fun _ hk => trivial), bQ⟩

end Go.Proofs.Ytoeclfihlhmnpaa.X
