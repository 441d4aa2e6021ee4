-- thin
-- short
-- compact
import Derived.Test.YtfihohongkfibaaXA
import Derived.Test.YtfihohongkfibaaX0
import Derived.Test.YtfihohongkfibaaX6
import Derived.Test.YtfihohongkfibaaX7
namespace Go.Proofs.Ytfihohongkfibaa.X
open Go.RowKit Go.Proofs.Ytfihohongkfibaa.XW Go.Proofs.YtfihohongkfibaaW.PrintWords Go.Proofs.YtfihohongkfibaaW.PrintLast Go.Proofs.YtfihohongkfibaaW.PrintMore
attribute [local go_sem] max2_int min2_int max_two min_two max_three min_three max_four min_four   -- for this text's walks alone
set_option linter.unusedVariables false
set_option linter.unusedSimpArgs false

mutual
def spec_mvFrames.l0 : Nat → List (List (S_impl_Peg)) → List (List (S_impl_Peg)) → Int → Int → Option ((List (List (S_impl_Peg))))
 | 0, _, _, _, _ => none
 | k + 1, x3, x10, x11, x12 => if x12 < x11 then (if 0 ≤ x12 then (if x12 < (x10.length : Int) then (spec_mvFrames.l1 k x3 (rd_L3 x10 x12) x10 x11 x12 ((rd_L3 x10 x12).length : Int) 0) else (none)) else (none)) else (some x3)
def spec_mvFrames.l1 : Nat → List (List (S_impl_Peg)) → List (S_impl_Peg) → List (List (S_impl_Peg)) → Int → Int → Int → Int → Option ((List (List (S_impl_Peg))))
 | 0, _, _, _, _, _, _, _ => none
 | k + 1, x3, x5, x10, x11, x12, x17, x18 => if x18 < x17 then ((some (([] : List (S_impl_Peg)) : List (S_impl_Peg))).bind fun y206 => (if 0 ≤ x18 then (if x18 ≤ (x5.length : Int) then ((some (x5.drop (x18 : Int).toNat : List (S_impl_Peg))).bind fun y209 => (if y206.length + y209.length < 8796093022208 then ((some (y206 ++ y209 : List (S_impl_Peg))).bind fun y213 => ((some (x5.take (x18 : Int).toNat : List (S_impl_Peg))).bind fun y216 => (if y213.length + y216.length < 8796093022208 then ((spec_mvFrame.f k (y213 ++ y216)).bind fun t223 => (if x3.length < 5864062014805 then (spec_mvFrames.l1 k (x3 ++ [t223]) x5 x10 x11 x12 x17 (wrap64 (x18 + 1))) else (none))) else (none)))) else (none))) else (none)) else (none))) else (spec_mvFrames.l0 k x3 x10 x11 (wrap64 (x12 + 1)))
end
def spec_mvFrames.f (k : Nat) (l0 : List (S_impl_Peg)) : Option ((List (List (S_impl_Peg)))) := (spec_pgBack.f k l0).bind fun t199 => ((some (([l0, t199] : List (List (S_impl_Peg))) : List (List (S_impl_Peg)))).bind fun y202 => (spec_mvFrames.l0 k ([] : List (List (S_impl_Peg))) y202 (y202.length : Int) 0))
theorem spec_mvFrames.mono_l : ∀ k, (∀ y0 y1 y2 y3, LeO (spec_mvFrames.l0 k y0 y1 y2 y3) (spec_mvFrames.l0 (k + 1) y0 y1 y2 y3)) ∧ (∀ y0 y1 y2 y3 y4 y5 y6, LeO (spec_mvFrames.l1 k y0 y1 y2 y3 y4 y5 y6) (spec_mvFrames.l1 (k + 1) y0 y1 y2 y3 y4 y5 y6))
 | 0 => ⟨fun _ _ _ _ r h => by simp [spec_mvFrames.l0] at h, fun _ _ _ _ _ _ _ r h => by simp [spec_mvFrames.l1] at h⟩
 | k + 1 => by
  obtain ⟨ih0, ih1⟩ := spec_mvFrames.mono_l k
  refine ⟨?_, ?_⟩ <;> intros <;> (first | unfold spec_mvFrames.l0 | unfold spec_mvFrames.l1) <;> repeat' first | (with_reducible exact ih0 _ _ _ _) | (with_reducible exact ih1 _ _ _ _ _ _ _) | (with_reducible exact spec_mvFrame.mono _ _) | (with_reducible exact spec_pgBack.mono _ _) | (with_reducible exact LeO.refl _) | (with_reducible exact LeO.none _) | (with_reducible refine LeO.ite ?_ ?_) | (with_reducible refine LeO.bind ?_ (fun _ => ?_)) | exact ih0 _ _ _ _ | exact ih1 _ _ _ _ _ _ _ | exact spec_mvFrame.mono _ _ | exact spec_pgBack.mono _ _ | exact LeO.none _ | refine LeO.ite ?_ ?_ | refine LeO.bind ?_ (fun _ => ?_)
theorem spec_mvFrames.mono : ∀ a0 k, LeO (spec_mvFrames.f k a0) (spec_mvFrames.f (k + 1) a0) := by
 intro a0 k
 obtain ⟨ih0, ih1⟩ := spec_mvFrames.mono_l k
 unfold spec_mvFrames.f
 repeat' first | (with_reducible exact ih0 _ _ _ _) | (with_reducible exact ih1 _ _ _ _ _ _ _) | (with_reducible exact spec_mvFrame.mono _ _) | (with_reducible exact spec_pgBack.mono _ _) | (with_reducible exact LeO.refl _) | (with_reducible exact LeO.none _) | (with_reducible refine LeO.ite ?_ ?_) | (with_reducible refine LeO.bind ?_ (fun _ => ?_)) | exact ih0 _ _ _ _ | exact ih1 _ _ _ _ _ _ _ | exact spec_mvFrame.mono _ _ | exact spec_pgBack.mono _ _ | exact LeO.none _ | refine LeO.ite ?_ ?_ | refine LeO.bind ?_ (fun _ => ?_)
def spec_mvFrames.T8 : Bool × List (List Nat × List Nat) := (true, [([], []), ([], []), ([], []), ([], []), ([2, 3], [2, 3]), ([1, 4], [1, 4]), ([], []), ([], []), ([6, 7], [6, 7]), ([5, 8, 5], [5, 8]), ([9, 9], [9]), ([10], [10]), ([0, 11, 10], [0, 11]), ([12, 12, 0, 1, 2, 3, 4, 5, 6, 7, 8, 9, 10, 11, 12], [0, 12])])
def spec_mvFrames.B8 : List Nat := [0, 0, 0, 0, 12, 30, 0, 0, 192, 510, 1022, 2046, 4095, 8191]
theorem spec_mvFrames.tab8 : rtab .any (opsOf Try.f126 8) = spec_mvFrames.T8 := by kernel_rfl
theorem spec_mvFrames.bits8 : waitsOk spec_mvFrames.T8.2 spec_mvFrames.B8 = true := by kernel_rfl
set_option maxHeartbeats 8000000 in
set_option maxRecDepth 100000 in
theorem spec_mvFrames.calls (k : Nat) (P0_ : Nat → Prop) (A0 : Option Addr) (c0 : Nat) (l0 : List (S_impl_Peg)) (r : List (List (S_impl_Peg))) (w : World) (hs0 : Kd.V kd_impl_Peg 50 w w.heap.size (fun k_ => P0_ k_) (.slice A0 l0.length c0) l0) (h : spec_mvFrames.f k l0 = some r) :
  Calls Try.prog 126 #[.slice A0 l0.length c0] w fun e w' => ∃ v0_ : Value, e = .returned (v0_) ∧ Kd.N (Kd.slice 50 kd_impl_Peg) 24 w' w.heap.size (fun k_ => (P0_ k_ ∨ w.heap.size ≤ k_)) v0_ r ∧ Below w.heap.size w w' := by
 have HO0 := aM (show Kd.V kd_impl_Peg 50 w w.heap.size (fun k_ => (P0_ k_ ∨ w.heap.size ≤ k_)) (.slice A0 l0.length c0) l0 from Kd.V_mono hs0 (fun k_ hk => .inl hk)); have HB := aM (Below.refl w.heap.size w)
 unfold spec_mvFrames.f at h; have H := h; clear h
 replace H := bS H; obtain ⟨t199, A2, H⟩ := H; replace H := lS H; obtain ⟨y202, Ny202, H⟩ := H; have H' := aM H; clear H
 go_enter Try.func126, Try.ntmps126
 go_wp2_with (first | ((with_reducible refine gC (f := 97) rfl ?_); refine goesL_ (some 9) rfl rfl Try.func97 kR rfl #[.slice A0 l0.length c0] rfl sQ ?_; (with_reducible refine (spec_pgBack.calls k _ _ l0 t199 _ ?side1 ?side2 A2.out).mono ?_); (case side1 => repeat (first | exact (Kd.V_reads' HO0.out).2.2 | (with_reducible refine cA ?_ _) | (with_reducible refine cN ?_ _) | (with_reducible refine cD ?_))); (case side2 => exact (Kd.V_reads' HO0.out).2.1); rintro e w3 ⟨v200, rfl, ho0, hb⟩; refine ⟨_, rfl, ?_⟩; have HO201 := aM (Kd.R_lower (Kd.R_newM (M := fun k_ => (w.heap.size ≤ k_)) ho0 (pZ bQ) (fun k_ h_ => h_)) (pZ bQ)); replace HO0 := aM (Kd.V_elder' (by (with_reducible repeat (first | apply Kd.V_alloc | apply Kd.V_drewN | apply Kd.V_drew)); exact HO0.out) (Kd.R_base ho0) hb); replace HB := tB HB hb; (try clear hb); (try clear hb2); (try clear hk); (try clear hi); (try clear ho0); obtain ⟨Ao4, co4, eo4⟩ := Kd.R_slice HO201.out; subst eo4) | ((with_reducible refine gate_dst (N := 10) rfl ?_); refine Kd.N_lit (Kd.slice 50 kd_impl_Peg) _ 24 ?hg (N' := 10) ?hd (xs := ([l0, t199] : List (List (S_impl_Peg)))) (inner := [.slice A0 l0.length c0, .slice Ao4 t199.length co4]) (ok := (fun k_ => (P0_ k_ ∨ w.heap.size ≤ k_))) (okp := (fun k_ => (P0_ k_ ∨ w.heap.size ≤ k_))) ?hr ?hp (fun _ hk => hk) ((show ∀ k_, w3.heap.size ≤ k_ → (fun k_ => (P0_ k_ ∨ w.heap.size ≤ k_)) k_ from fun k_ hk => (.inr (Nat.le_trans (pZ bQ) hk))) _ (Nat.le_refl _)) (Below.refl _ _) (Nat.le_refl _) (by simp) ?_; (case hd => rfl); (case hg => rfl); (case hr => first | (go_simp; done) | (go_simp; rfl)); (case hp => exact (Reps.one (show Kd.FK (Kd.slice 50 kd_impl_Peg) _ _ l0 [.slice A0 l0.length c0] from (Kd.FK_slice_mk (Kd.V_reads' (Kd.V_mono (ok' := (fun k_ => (P0_ k_ ∨ w.heap.size ≤ k_))) (HO0.out) (fun k_ hk => hk.1))).2.1 (Kd.V_F (Kd.V_mono (ok' := (fun k_ => (P0_ k_ ∨ w.heap.size ≤ k_))) (HO0.out) (fun k_ hk => hk.1))))) (Reps.one (show Kd.FK (Kd.slice 50 kd_impl_Peg) _ _ t199 [.slice Ao4 t199.length co4] from (Kd.FK_slice_mk (rR (Kd.R_mono (ok' := (fun k_ => (P0_ k_ ∨ w.heap.size ≤ k_))) (HO201.out) (fun k_ hk => (.inr (hk.1))))).2.1 (Kd.R_F (Kd.R_mono (ok' := (fun k_ => (P0_ k_ ∨ w.heap.size ≤ k_))) (HO201.out) (fun k_ hk => (.inr (hk.1))))))) (Reps.none _ _)))); intro v203 w5 ho6 hb hg_ hnew_; clear hg_ hnew_; (first | rw [← Ny202.out] at ho6 | (simp only [Int.reduceToNat] at ho6; rw [← Ny202.out] at ho6)); have n0_ := aM (Kd.V_elder' (by (with_reducible repeat (first | apply Kd.V_alloc | apply Kd.V_drewN | apply Kd.V_drew)); exact HO0.out) (Kd.N_base ho6) hb); have n1_ := aM (Kd.N_lower ho6 (pZ bQ)); have n2_ := tB HB hb; clear HO0; clear HB; clear HO201; have HO0 := n0_; have HO204 := n1_; have HB := n2_; clear n0_ n1_ n2_; clear hb ho6; obtain ⟨Ao7, co7, eo7⟩ := Kd.N_slice HO204.out; subst eo7))
 go_loopg [3, 12] k (fun kq v3 v12 w' => ∃ (x3_1 : List (List (S_impl_Peg))) (x12_1 : Int), v12 = .int .i64 x12_1 ∧ Aside0 (spec_mvFrames.l0 kq x3_1 y202 (y202.length : Int) x12_1 = some r) ∧ Aside0 (kq ≤ k) ∧ Aside0 (Kd.N (Kd.slice 50 kd_impl_Peg) 24 w' w.heap.size (fun k_ => (P0_ k_ ∨ w.heap.size ≤ k_) ∧ some k_ ≠ ((.slice Ao7 y202.length co7) : Value).ownBlock) v3 x3_1) ∧ Aside0 (Kd.N (Kd.slice 50 kd_impl_Peg) 24 w' w.heap.size (fun k_ => (P0_ k_ ∨ w.heap.size ≤ k_) ∧ some k_ ≠ (v3 : Value).ownBlock) (.slice Ao7 y202.length co7) y202) ∧ Aside0 (Below w.heap.size w w'))
 case atStart => exact ⟨(([] : List (List (S_impl_Peg)))), (0), eQ, H', ⟨Nat.le_refl _⟩, ⟨by first | exact Kd.S_nil _ _ _ _ _ | exact Kd.N_nil _ _ _ _ _ | exact Kd.V_nil _ _ _ _ _ | exact Kd.Q_nil _ _ _ _ _ | exact Kd.R_nil _ _ _ _ _⟩, ⟨by (with_reducible repeat (first | apply Kd.N_alloc | apply Kd.N_drewN | apply Kd.N_drew)); exact Kd.N_mono HO204.out (fun _ hk => ⟨hk, (by simp [Value.ownBlock])⟩)⟩, ⟨bQ⟩⟩
 case round =>
  clear H'; obtain ⟨x3_1, x12_1, rfl, HA, HK1, HO_3, HO_10, HB⟩ := hrel
  cases gk with
  | zero => exact absurd HA.out (by simp [spec_mvFrames.l0])
  | succ k1 =>
   have H := HA.out; clear HA
   simp only [spec_mvFrames.l0] at H
   by_cases c8 : x12_1 < (y202.length : Int)
   ·rw [if_pos c8] at H; have c8b0 := dE c8; clear c8; replace H := iD H; obtain ⟨c9b0, H⟩ := H; replace H := iD H; obtain ⟨c10b0, H⟩ := H; have H' := aM H; clear H; have p205 : 0 ≤ (x12_1 : Int) := dT aQ; have q205 : x12_1 < (y202.length : Int) := dT aQ; obtain ⟨ad205, A205_0, c205_0, e205, hx205_0, hl205_0, hi205_0⟩ := at_L3 (Kd.N_reads' HO_10.out).2.2 x12_1 p205 q205
    cases e205
    obtain ⟨ce205, hce205, hMe205, hcc205⟩ := Kd.N_get HO_10.out [] x12_1 p205 (by first | exact q205 | exact dT aQ | (have e_ := (Kd.N_reads' HO_10.out).1; omega))
    obtain ⟨ua205_0, uc205_0, rfl, ul205_0, ge205_0⟩ := Kd.FK_slice_open hMe205; have hv205_0 := hcc205 0 _ rfl; rw [Nat.add_zero, show ((Kd.slice 50 kd_impl_Peg)).sz = 1 from rfl, Nat.mul_one] at hv205_0; replace hv205_0 := Option.some.inj (hv205_0.symm.trans hx205_0)
    injection hv205_0 with hva_ hvn_ hvc_
    rw [hva_] at ge205_0; rw [hvc_] at ul205_0; have HL205_0 := aM (show Kd.V kd_impl_Peg 50 _ w.heap.size _ _ (rd_L3 y202 x12_1) from Kd.V_mk ul205_0 ge205_0); clear hva_ hvn_ hvc_ ge205_0 ul205_0; clear hcc205 hce205; have HR205_0 := aM hi205_0; have HC205_0 := aM hl205_0; clear hi205_0 hl205_0; replace p205 := eq_true p205; replace q205 := eq_true q205; go_wp2
    go_loopg [3, 18] k1 (fun kq v3 v18 w' => ∃ (x3_2 : List (List (S_impl_Peg))) (x18_2 : Int), v18 = .int .i64 x18_2 ∧ Aside0 (spec_mvFrames.l1 kq x3_2 (rd_L3 y202 x12_1) y202 (y202.length : Int) x12_1 ((rd_L3 y202 x12_1).length : Int) x18_2 = some r) ∧ Aside0 (kq ≤ k1) ∧ Aside0 (Kd.N (Kd.slice 50 kd_impl_Peg) 24 w' w.heap.size (fun k_ => (P0_ k_ ∨ w.heap.size ≤ k_) ∧ some k_ ≠ ((.slice (some ad205) y202.length co7) : Value).ownBlock) v3 x3_2) ∧ Aside0 (Kd.N (Kd.slice 50 kd_impl_Peg) 24 w' w.heap.size (fun k_ => (P0_ k_ ∨ w.heap.size ≤ k_) ∧ some k_ ≠ (v3 : Value).ownBlock) (.slice (some ad205) y202.length co7) y202) ∧ Aside0 (Below w.heap.size w w') ∧ Aside0 (Kd.V kd_impl_Peg 50 w' w.heap.size (fun k_ => (P0_ k_ ∨ w.heap.size ≤ k_) ∧ some k_ ≠ (v3 : Value).ownBlock) (.slice A205_0 (rd_L3 y202 x12_1).length c205_0) (rd_L3 y202 x12_1)))
    case atStart => exact ⟨(x3_1), (0), eQ, H', ⟨Nat.le_refl _⟩, ⟨by (with_reducible repeat (first | apply Kd.N_alloc | apply Kd.N_drewN | apply Kd.N_drew)); exact HO_3.out⟩, ⟨by (with_reducible repeat (first | apply Kd.N_alloc | apply Kd.N_drewN | apply Kd.N_drew)); exact HO_10.out⟩, ⟨bQ⟩, ⟨by (with_reducible repeat (first | apply Kd.V_alloc | apply Kd.V_drewN | apply Kd.V_drew)); exact Kd.V_mono HL205_0.out (fun _ hk => hk.1)⟩⟩
    case round => -- HL_carried
     clear H'; (try clear c8); (try clear c8b0); (try clear c9b0); (try clear c10b0); (try clear hx205_0); (try clear p205); (try clear q205); obtain ⟨x3_2, x18_2, rfl, HA, HK2, HO_3, HO_10, HB, HL205_0⟩ := hrel; have HR205_0 := aM (Kd.V_reads' HL205_0.out).2.2
     cases gk with
     | zero => exact absurd HA.out (by simp [spec_mvFrames.l1])
     | succ k2 =>
      have H := HA.out; clear HA
      simp only [spec_mvFrames.l1] at H
      by_cases c11 : x18_2 < ((rd_L3 y202 x12_1).length : Int)
      ·rw [if_pos c11] at H; have c11b0 := dE c11; clear c11; replace H := lS H; obtain ⟨y206, Ny206, H⟩ := H; replace H := iN H; obtain ⟨c12, H⟩ := H; have c12b0 := eq_true c12; have c12b1 := dE c12; clear c12; replace H := iN H; obtain ⟨c13, H⟩ := H; have c13b0 := eq_true c13; have c13b1 := dE c13; clear c13; replace H := lS H; obtain ⟨y209, Ny209, H⟩ := H; replace H := iN H; obtain ⟨c14, H⟩ := H; have LMc14 := aM c14; clear c14; replace H := lS H; obtain ⟨y213, Ny213, H⟩ := H; have c15b0 := eq_true (dT aQ : 0 ≤ x18_2); have c16b0 := eq_true (dT aQ : x18_2 ≤ ((rd_L3 y202 x12_1).length : Int)); replace H := lS H; obtain ⟨y216, Ny216, H⟩ := H; replace H := iN H; obtain ⟨c17, H⟩ := H; have LMc17 := aM c17; clear c17; obtain ⟨y220, hy220⟩ : ∃ y_ : List (S_impl_Peg), y_ = (y213 ++ y216) := ⟨_, rfl⟩; rw [← hy220] at H; have Ny220 := aM hy220; clear hy220; replace H := bS H; obtain ⟨t223, A18, H⟩ := H; replace H := iN H; obtain ⟨c19, H⟩ := H; have LMc19 := aM c19; clear c19; obtain ⟨y226, hy226⟩ : ∃ y_ : List (List (S_impl_Peg)), y_ = (x3_2 ++ [t223]) := ⟨_, rfl⟩; rw [← hy226] at H; have Ny226 := aM hy226; clear hy226; have H' := aM H; clear H
       try go_wp2
       replace HO_3 := aM (Kd.N_drew HO_3.out); replace HO_10 := aM (Kd.N_drew HO_10.out); replace HL205_0 := aM (Kd.V_drew HL205_0.out); replace HB := aM (pD HB.out); have q21 : (x18_2 : Int) ≤ (((rd_L3 y202 x12_1).length : Int) : Int) := dT aQ; obtain ⟨i021, hi021, _, hsz21, _⟩ := info_parts info50; have hroom21 : (rd_L3 y202 x12_1).length ≤ c205_0 := HC205_0.out; have hC21 : Kd.C kd_impl_Peg _ A205_0 (rd_L3 y202 x12_1).length (rd_L3 y202 x12_1) := HR205_0.out; have q021 : (0 : Int) ≤ (x18_2 : Int) := dT aQ; have hcut21 := cut_from (P := Try.prog) 24 50 .i64 Try.underlying24 hi021 2 hsz21 A205_0 (rd_L3 y202 x12_1).length c205_0 x18_2 q021 q21; have hr21 := Kd.C_drop (m := (x18_2 : Int).toNat) (c := c205_0) hC21 (by omega) hroom21
       obtain ⟨A21, hA21⟩ : ∃ A1, A1 = (if c205_0 = (x18_2 : Int).toNat then A205_0 else (A205_0 : Option Addr).map (·.add ((x18_2 : Int).toNat * 2))) := ⟨_, rfl⟩; obtain ⟨c21, hc21⟩ : ∃ c1, c1 = c205_0 - (x18_2 : Int).toNat := ⟨_, rfl⟩; have hy21 : y209.length = (rd_L3 y202 x12_1).length - (x18_2 : Int).toNat := (by rw [Ny209.out, lD] <;> omega)
       rw [show ((rd_L3 y202 x12_1)).drop (x18_2 : Int).toNat = y209 from Ny209.out.symm] at hr21; replace hr21 : Kd.C kd_impl_Peg _ A21 y209.length y209 := (by rw [hA21]; exact hr21)
       rw [← hy21, ← hA21, ← hc21] at hcut21; have HR212 := aM hr21; have HC212 := aM (show y209.length ≤ c21 from by rw [hy21, hc21]; exact Nat.sub_le_sub_right hroom21 _)
       clear hr21 hC21 hroom21 hi021 hsz21 hc21; have KY21 := aM hy21; have KA21 := aM hA21; clear hy21 hA21; replace q21 := eq_true q21; have q22 : (x18_2 : Int) ≤ (((rd_L3 y202 x12_1).length : Int) : Int) := dT aQ; obtain ⟨i022, hi022, _, hsz22, _⟩ := info_parts info50; have hroom22 : (rd_L3 y202 x12_1).length ≤ c205_0 := HC205_0.out; have hC22 : Kd.C kd_impl_Peg _ A205_0 (rd_L3 y202 x12_1).length (rd_L3 y202 x12_1) := HR205_0.out; have hcut22 := cut_to (P := Try.prog) 24 50 .i64 Try.underlying24 hi022 A205_0 (rd_L3 y202 x12_1).length c205_0 x18_2 (dT aQ) q22 hroom22; have hr22 := Kd.C_take (m := (x18_2 : Int).toNat) hC22 (by omega)
       have hy22 : y216.length = (x18_2 : Int).toNat := (by rw [Ny216.out, lT]; omega)
       rw [← Ny216.out] at hr22; rw [← hy22] at hcut22; have HR219 := aM hr22; have HC219 := aM (show y216.length ≤ c205_0 from by omega)
       clear hr22 hC22 hroom22 hi022 hsz22; have KY22 := aM hy22; clear hy22; replace q22 := eq_true q22
       refine start_ (n := 14) (S := fun w' => True) (ds := []) (bA 14 0) kR rfl kR trivial (fun hHeld => ?_); refine with_tabW spec_mvFrames.tab8 spec_mvFrames.bits8 (fun HT_ HW_ => ?_)
       replace HR212 := aM (Kd.C_drew HR212.out); replace HR219 := aM (Kd.C_drew HR219.out); generalize wr.drew = w20 at HO_3 HO_10 HB HR212 HR219 HL205_0 hHeld ⊢; have HBW := HB
       refine pU 0 21 (bA 14 1) HT_ ?_; refine pU 2 23 (bA 14 5) HT_ ?_; refine pU 3 24 (bA 14 13) HT_ ?_; refine pU 4 25 (bA 14 29) HT_ ?_; refine pU 6 27 (bA 14 93) HT_ ?_; refine pU 7 28 (bA 14 221) HT_ ?_; refine pU 8 29 (bA 14 477) HT_ ?_
       refine oU 1 22 (bA 14 479) HT_ (fun K hK => ?_)
       refine Kd.R_lit_step kd_impl_Peg _ 50 ?hg (N := 22) ?hd (xs := ([] : List (S_impl_Peg))) (inner := []) (ok := fun _ => True) (okp := fun _ => True) ?hr ?hp (fun _ hk => hk) trivial (Below.refl _ _) (Nat.le_refl _) (by simp) ?_; (case hd => rfl); (case hg => rfl); (case hr => first | (go_simp; done) | (go_simp; rfl)); (case hp => exact (Reps.none _ _))
       intro v207 w23 ho24 hb hg_ hnew_
       clear hg_ hnew_
       (first | rw [← Ny206.out] at ho24 | (simp only [Int.reduceToNat] at ho24; rw [← Ny206.out] at ho24))
       have HO208 := aM (Kd.R_lower (Kd.R_newM (M := fun k_ => (w.heap.size ≤ k_)) ho24 (pZ bQ) (fun k_ h_ => h_)) (pZ bQ)); replace HO_3 := aM (Kd.N_elder' (by (with_reducible repeat (first | apply Kd.N_alloc | apply Kd.N_drewN | apply Kd.N_drew)); exact HO_3.out) (Kd.R_base ho24) hb); replace HO_10 := aM (Kd.N_elder' (by (with_reducible repeat (first | apply Kd.N_alloc | apply Kd.N_drewN | apply Kd.N_drew)); exact HO_10.out) (Kd.R_base ho24) hb); replace HL205_0 := aM (Kd.V_elder' (by (with_reducible repeat (first | apply Kd.V_alloc | apply Kd.V_drewN | apply Kd.V_drew)); exact HL205_0.out) (Kd.R_base ho24) hb); replace HB := tB HB hb
       have HBR := aM hb; have HOR := aM (Kd.R_newM (M := fun k_ => (w20.heap.size ≤ k_)) ho24 (Nat.le_refl _) (fun k_ h_ => h_))
       clear hb ho24
       refine hK.out _ _ trivial (fun hHeld => ?_)
       clear hK K
       refine nU ?_
       refine oU 5 26 (bA 14 511) HT_ (fun K hK => ?_)
       refine Kd.R_append_rows_step kd_impl_Peg (w0 := w20) w20.heap.size (by rfl) (.tmp 22) (.tmp 25) 24 50 (.agg #[(.int .i64 0), (.int .i64 0)]) 16 rfl Try.underlying24 info50 rfl (by decide) (by omega) v207 y206 y209 _ _ _ (fun k_ => (w20.heap.size ≤ k_)) (fun _ => False) rfl rfl ?aO ?aR (fun _ _ h => h) (fun _ h => h.elim) ?aF ?aB ?aS ?aL ?_
       (case aR => repeat (first | exact (Kd.C_below HR212.out HBR.out) | (with_reducible refine cA ?_ _) | (with_reducible refine cN ?_ _) | (with_reducible refine cD ?_)))
       (case aB => exact HBR.out)
       (case aF => exact (fun k_ hk => (Nat.le_trans HBR.out.size hk)))
       (case aO => exact Kd.R_mono HOR.out (fun _ hk => hk.1))
       (case aS => exact HBR.out.size)
       (case aL => have := LMc14.out; omega)
       intro v214 w25 ho hb hg hat
       rw [← Ny213.out] at ho; replace HBR := aM hb; replace HOR := aM ho; replace ho := Kd.R_mono (Kd.R_lower ho (pZ HBW.out)) (fun k_ hk => Nat.le_trans (pZ HBW.out) hk); replace hb := pT HBW.out hb; have n0_ := aM (Kd.N_afterv (ok := (fun k_ => (P0_ k_ ∨ w.heap.size ≤ k_) ∧ some k_ ≠ (.slice (some ad205) y202.length co7 : Value).ownBlock)) (by (with_reducible repeat (first | apply Kd.N_alloc | apply Kd.N_drewN | apply Kd.N_drew)); exact HO_3.out) hg hat)
       have n1_ := aM (Kd.N_afterv (ok := (fun k_ => (P0_ k_ ∨ w.heap.size ≤ k_) ∧ some k_ ≠ (u3 : Value).ownBlock)) (by (with_reducible repeat (first | apply Kd.N_alloc | apply Kd.N_drewN | apply Kd.N_drew)); exact HO_10.out) hg hat); have nL_ := aM (Kd.V_afterv (ok := (fun k_ => (P0_ k_ ∨ w.heap.size ≤ k_) ∧ some k_ ≠ (u3 : Value).ownBlock)) (by (with_reducible repeat (first | apply Kd.V_alloc | apply Kd.V_drewN | apply Kd.V_drew)); exact HL205_0.out) hg hat)
       have n2_ := aM (hb); have n3_ := aM (ho); clear HO_3; clear HO_10; clear HB; clear HO208; have HO_3 := n0_; have HO_10 := n1_; clear HL205_0; have HL205_0 := nL_; clear nL_; have HB := n2_; have HO215 := n3_; clear n0_ n1_ n2_ n3_; clear ho hb hg hat
       refine hK.out _ _ trivial (fun hHeld => ?_)
       clear hK K
       refine nU ?_
       refine oU 9 30 (bA 14 1023) HT_ (fun K hK => ?_)
       refine Kd.R_append_rows_step kd_impl_Peg (w0 := w20) w20.heap.size (by rfl) (.tmp 26) (.tmp 29) 24 50 (.agg #[(.int .i64 0), (.int .i64 0)]) 16 rfl Try.underlying24 info50 rfl (by decide) (by omega) v214 y213 y216 _ _ _ (fun k_ => (w20.heap.size ≤ k_)) (fun _ => False) rfl rfl ?aO ?aR (fun _ _ h => h) (fun _ h => h.elim) ?aF ?aB ?aS ?aL ?_
       (case aR => repeat (first | exact (Kd.C_below HR219.out HBR.out) | (with_reducible refine cA ?_ _) | (with_reducible refine cN ?_ _) | (with_reducible refine cD ?_)))
       (case aB => exact HBR.out)
       (case aF => exact (fun k_ hk => (Nat.le_trans HBR.out.size hk)))
       (case aO => exact HOR.out)
       (case aS => exact HBR.out.size)
       (case aL => have := LMc17.out; omega)
       intro v221 w26 ho hb hg hat
       rw [← Ny220.out] at ho; replace HBR := aM hb; replace HOR := aM ho; replace ho := Kd.R_mono (Kd.R_lower ho (pZ HBW.out)) (fun k_ hk => Nat.le_trans (pZ HBW.out) hk); replace hb := pT HBW.out hb; have n0_ := aM (Kd.N_afterv (ok := (fun k_ => (P0_ k_ ∨ w.heap.size ≤ k_) ∧ some k_ ≠ (.slice (some ad205) y202.length co7 : Value).ownBlock)) (by (with_reducible repeat (first | apply Kd.N_alloc | apply Kd.N_drewN | apply Kd.N_drew)); exact HO_3.out) hg hat)
       have n1_ := aM (Kd.N_afterv (ok := (fun k_ => (P0_ k_ ∨ w.heap.size ≤ k_) ∧ some k_ ≠ (u3 : Value).ownBlock)) (by (with_reducible repeat (first | apply Kd.N_alloc | apply Kd.N_drewN | apply Kd.N_drew)); exact HO_10.out) hg hat); have nL_ := aM (Kd.V_afterv (ok := (fun k_ => (P0_ k_ ∨ w.heap.size ≤ k_) ∧ some k_ ≠ (u3 : Value).ownBlock)) (by (with_reducible repeat (first | apply Kd.V_alloc | apply Kd.V_drewN | apply Kd.V_drew)); exact HL205_0.out) hg hat)
       have n2_ := aM (hb); have n3_ := aM (ho); clear HO_3; clear HO_10; clear HB; clear HO215; have HO_3 := n0_; have HO_10 := n1_; clear HL205_0; have HL205_0 := nL_; clear nL_; have HB := n2_; have HO222 := n3_; clear n0_ n1_ n2_ n3_; clear ho hb hg hat; obtain ⟨Ao27, co27, eo27⟩ := Kd.R_slice HO222.out
       (first | subst eo27 | (injection eo27 with f1_ f2_ f3_; have f4_ := f1_.symm; have f5_ := f3_.symm; clear f1_ f2_ f3_; subst f4_; subst f5_))
       refine hK.out _ _ trivial (fun hHeld => ?_)
       clear hK K
       refine nU ?_
       refine oU 10 31 (bA 14 2047) HT_ (fun K hK => ?_)
       refine goes_ Try.func140 kR rfl #[.slice Ao27 y220.length co27] (by rfl) rfl rfl sQ ?_
       with_reducible refine (spec_mvFrame.calls k2 _ _ y220 t223 _ ?side1 ?side2 A18.out).mono ?_
       (case side1 => repeat (first | exact (rR HO222.out).2.2 | (with_reducible refine cA ?_ _) | (with_reducible refine cN ?_ _) | (with_reducible refine cD ?_)))
       (case side2 => exact (rR HO222.out).2.1)
       rintro e w28 ⟨v224, rfl, ho0, hb⟩; refine ⟨_, rfl, ?_⟩; have HO225 := aM (Kd.R_lower (Kd.R_new' (Kd.R_newM (M := fun k_ => (w.heap.size ≤ k_)) ho0 (pZ bQ) (fun k_ h_ => h_)) (Kd.R_lt (by (with_reducible repeat (first | apply rA | apply rN | apply rD)); exact HO222.out))) (pZ bQ)); replace HO_3 := aM (Kd.N_elder' (by (with_reducible repeat (first | apply Kd.N_alloc | apply Kd.N_drewN | apply Kd.N_drew)); exact HO_3.out) (Kd.R_base ho0) hb); replace HO_10 := aM (Kd.N_elder' (by (with_reducible repeat (first | apply Kd.N_alloc | apply Kd.N_drewN | apply Kd.N_drew)); exact HO_10.out) (Kd.R_base ho0) hb); replace HL205_0 := aM (Kd.V_elder' (by (with_reducible repeat (first | apply Kd.V_alloc | apply Kd.V_drewN | apply Kd.V_drew)); exact HL205_0.out) (Kd.R_base ho0) hb); replace HO222 := aM (Kd.R_elder' (by (with_reducible repeat (first | apply rA | apply rN | apply rD)); exact HO222.out) (Kd.R_base ho0) hb); replace HB := tB HB hb
       (try clear hb); (try clear hb2); (try clear hk); (try clear hi); (try clear ho0); obtain ⟨Ao30, co30, eo30⟩ := Kd.R_slice HO225.out
       (first | subst eo30 | (injection eo30 with f1_ f2_ f3_; have f4_ := f1_.symm; have f5_ := f3_.symm; clear f1_ f2_ f3_; subst f4_; subst f5_))
       refine hK.out _ _ trivial (fun hHeld => ?_)
       clear hK K
       refine nU ?_
       refine oU 11 32 (bA 14 4095) HT_ (fun K hK => ?_)
       refine value_ (w1 := ?_) (v := ?_) (by rfl) rfl ?_ ?_
       rotate_left 2
       ·go_simp
        constructor
        ·rfl
        ·rfl
       refine hK.out _ _ trivial (fun hHeld => ?_)
       clear hK K
       refine nU ?_
       refine oU 12 33 (bA 14 8191) HT_ (fun K hK => ?_)
       refine Kd.N_append_step (Kd.slice 50 kd_impl_Peg) (w0 := w) w.heap.size (by rfl) (.tmp 21) (.tmp 32) 47 24 (.slice none 0 0) 24 rfl Try.underlying47 info24 rfl (by decide) (by omega) u3 x3_2 t223 [.slice Ao30 t223.length co30] (fun k_ => (P0_ k_ ∨ w.heap.size ≤ k_) ∧ some k_ ≠ (.slice (some ad205) y202.length co7 : Value).ownBlock ∧ some k_ ≠ (.slice Ao27 y220.length co27 : Value).ownBlock) (fun k_ => ((fun k_ => (P0_ k_ ∨ w.heap.size ≤ k_) ∧ some k_ ≠ (.slice (some ad205) y202.length co7 : Value).ownBlock ∧ some k_ ≠ (.slice Ao27 y220.length co27 : Value).ownBlock)) k_ ∧ some k_ ≠ (u3 : Value).ownBlock) rfl rfl ?aP (fun _ hk => hk) ?aF ?aO ?aB ?aS ?aL ?_
       (case aP => exact (Kd.FK_slice_mk (rR (Kd.R_mono (ok' := (fun k_ => ((fun k_ => (P0_ k_ ∨ w.heap.size ≤ k_) ∧ some k_ ≠ (.slice (some ad205) y202.length co7 : Value).ownBlock ∧ some k_ ≠ (.slice Ao27 y220.length co27 : Value).ownBlock)) k_ ∧ some k_ ≠ (u3 : Value).ownBlock)) (Kd.R_apart' (Kd.R_apart' (HO225.out) (Kd.N_typed HO_10.out) (by decide)) (Kd.N_typed HO_3.out) (by decide)) (fun k_ hk => ⟨⟨(.inr (hk.1.1.1.1)), ⟨hk.1.2, hk.1.1.2⟩⟩, hk.2⟩))).2.1 (Kd.R_F (Kd.R_mono (ok' := (fun k_ => ((fun k_ => (P0_ k_ ∨ w.heap.size ≤ k_) ∧ some k_ ≠ (.slice (some ad205) y202.length co7 : Value).ownBlock ∧ some k_ ≠ (.slice Ao27 y220.length co27 : Value).ownBlock)) k_ ∧ some k_ ≠ (u3 : Value).ownBlock)) (Kd.R_apart' (Kd.R_apart' (HO225.out) (Kd.N_typed HO_10.out) (by decide)) (Kd.N_typed HO_3.out) (by decide)) (fun k_ hk => ⟨⟨(.inr (hk.1.1.1.1)), ⟨hk.1.2, hk.1.1.2⟩⟩, hk.2⟩)))))
       (case aB => exact bQ)
       (case aF => exact (fun k_ hk => ⟨(.inr (Nat.le_trans (pZ bQ) hk)), Kd.fresh' (Kd.N_lt (by (with_reducible repeat (first | apply Kd.N_alloc | apply Kd.N_drewN | apply Kd.N_drew)); exact HO_10.out)) k_ hk, Kd.fresh' (Kd.R_lt (by (with_reducible repeat (first | apply rA | apply rN | apply rD)); exact HO222.out)) k_ hk⟩))
       (case aO => exact (by (with_reducible repeat (first | apply Kd.N_alloc | apply Kd.N_drewN | apply Kd.N_drew)); exact Kd.N_mono HO_3.out (fun _ hk => ⟨hk.1.1.1, ⟨hk.1.1.2, hk.1.2⟩⟩)))
       (case aS => exact (pZ bQ))
       (case aL => have := LMc19.out; omega)
       intro v227 w29 ho hb hg hat
       rw [← Ny226.out] at ho; have n0_ := aM (Kd.N_afterv (ok := (fun k_ => (P0_ k_ ∨ w.heap.size ≤ k_) ∧ some k_ ≠ (.slice Ao27 y220.length co27 : Value).ownBlock ∧ some k_ ≠ (.slice Ao30 t223.length co30 : Value).ownBlock)) (by (with_reducible repeat (first | apply Kd.N_alloc | apply Kd.N_drewN | apply Kd.N_drew)); exact Kd.N_mono HO_10.out (fun _ hk => ⟨⟨hk.1.1.1, ⟨hk.1.2, hk.2⟩⟩, hk.1.1.2⟩)) hg hat); have nL_ := aM (Kd.V_afterv (ok := (fun k_ => (P0_ k_ ∨ w.heap.size ≤ k_) ∧ some k_ ≠ (.slice Ao27 y220.length co27 : Value).ownBlock ∧ some k_ ≠ (.slice Ao30 t223.length co30 : Value).ownBlock)) (by (with_reducible repeat (first | apply Kd.V_alloc | apply Kd.V_drewN | apply Kd.V_drew)); exact Kd.V_mono HL205_0.out (fun _ hk => ⟨⟨hk.1.1.1, ⟨hk.1.2, hk.2⟩⟩, hk.1.1.2⟩)) hg hat)
       have n1_ := aM (Kd.R_over' (by (with_reducible repeat (first | apply rA | apply rN | apply rD)); exact HO222.out) (Kd.N_typed (by (with_reducible repeat (first | apply Kd.N_alloc | apply Kd.N_drewN | apply Kd.N_drew)); exact HO_3.out)) (by decide) hg)
       have n2_ := aM (hb); have n3_ := aM (ho); clear HO_10; clear HO222; clear HB; clear HO_3; clear HO225; have HO_10 := n0_; clear HL205_0; have HL205_0 := nL_; clear nL_; have HO222 := n1_; have HB := n2_; have HO228 := n3_; clear n0_ n1_ n2_ n3_; clear ho hb hg hat
       refine hK.out _ _ trivial (fun hHeld => ?_)
       clear hK K
       refine nU ?_
       refine pU 13 3 (bA 14 16383) HT_ ?_
       refine done_ (done_of HT_.out kR) ?_
       try go_wp2
       go_roundg k2
       case measure => have := HK1.out; have := HK2.out; omega
       case rel => exact ⟨(y226), (wrap64 (x18_2 + 1)), eQ, H', ⟨by have := HK1.out; have := HK2.out; omega⟩, ⟨by (with_reducible repeat (first | apply Kd.N_alloc | apply Kd.N_drewN | apply Kd.N_drew)); exact Kd.N_mono HO228.out (fun _ hk => ⟨hk.1, hk.2.1⟩)⟩, ⟨by (with_reducible repeat (first | apply Kd.N_alloc | apply Kd.N_drewN | apply Kd.N_drew)); exact Kd.N_mono HO_10.out (fun _ hk => ⟨hk.1.1, hk.2⟩)⟩, ⟨bQ⟩, ⟨by (with_reducible repeat (first | apply Kd.V_alloc | apply Kd.V_drewN | apply Kd.V_drew)); exact Kd.V_mono HL205_0.out (fun _ hk => ⟨hk.1.1, hk.2⟩)⟩⟩
      ·rw [if_neg c11] at H; have c11b0 := decide_eq_false c11; clear c11; have H' := aM H; clear H; go_wp2
       go_roundg k2
       case measure => have := HK1.out; have := HK2.out; omega
       case rel => exact ⟨(x3_2), (wrap64 (x12_1 + 1)), eQ, H', ⟨by have := HK1.out; have := HK2.out; omega⟩, ⟨by (with_reducible repeat (first | apply Kd.N_alloc | apply Kd.N_drewN | apply Kd.N_drew)); exact HO_3.out⟩, ⟨by (with_reducible repeat (first | apply Kd.N_alloc | apply Kd.N_drewN | apply Kd.N_drew)); exact HO_10.out⟩, ⟨bQ⟩⟩
   ·rw [if_neg c8] at H; have c8b0 := decide_eq_false c8; clear c8; obtain rfl := Option.some.inj H; go_wp2
    go_ret
    exact ⟨_, by first | rfl | (simp [errW_none, errW_some] <;> rfl) | (simp [*, errW_none, errW_some] <;> rfl), by (with_reducible repeat (first | apply Kd.N_alloc | apply Kd.N_drewN | apply Kd.N_drew)); exact Kd.N_mono HO_3.out (fun _ hk => hk.1), bQ⟩

def spec_pgLess.f (a0_0 : Int) (a0_1 : Int) (a1_0 : Int) (a1_1 : Int) : Option (Bool) := if a0_0 < a1_0 then (some true) else (if a0_0 = a1_0 then (some (decide (a0_1 < a1_1))) else (some false))
set_option maxHeartbeats 8000000 in
set_option maxRecDepth 100000 in
theorem spec_pgLess.calls (a0_0 : Int) (a0_1 : Int) (a1_0 : Int) (a1_1 : Int) (r : Bool) (w : World) (h : spec_pgLess.f a0_0 a0_1 a1_0 a1_1 = some r) :
  Calls Try.prog 141 #[.agg #[.int .i64 a0_0, .int .i64 a0_1], .agg #[.int .i64 a1_0, .int .i64 a1_1]] w fun e w' => e = .returned (.bool r) ∧ Below w.heap.size w w' := by
 have hu50 := Try.underlying50; have HB := aM (Below.refl w.heap.size w)
 unfold spec_pgLess.f at h; have H := h; clear h
 by_cases c3 : a0_0 < a1_0
 ·rw [if_pos c3] at H; have c3b0 := dE c3; clear c3; obtain rfl := Option.some.inj H
  go_enter Try.func141, Try.ntmps141
  go_wp2_with (first | ((with_reducible refine gate_dst (N := 2) rfl ?_); refine bV 2 (cs := #[.int .i64 a0_0, .int .i64 a0_1]) (t := 50) rfl rfl (by first | (go_simp; done) | (go_simp; rfl)) ?_; intro gb229 hg w4 hbox hb; have BK229 := hbox; have GW229 := gZ HB hg; have GE229 := gZ HB hg; replace HB := tB HB hb; clear hb hbox hg) | ((with_reducible refine gate_dst (N := 3) rfl ?_); refine bV 3 (cs := #[.int .i64 a1_0, .int .i64 a1_1]) (t := 50) rfl rfl (by first | (go_simp; done) | (go_simp; rfl)) ?_; intro gb230 hg w5 hbox hb; have BK230 := hbox; have GW230 := gZ HB hg; have GE230 := gZ HB hg; have NB229_230 := nG BK229 hg; have NB230_229 := nH BK229 hg; replace BK229 := bB BK229 hb; replace HB := tB HB hb; clear hb hbox hg; have hnb6 := NB229_230.out; have hnc6 := NB230_229.out; have hcz7_0 := vZ0 BK229; have hcz7_1 := vZ1 BK229; have hfz7_0 := kF BK229.out 0; have hfz7_1 := kF BK229.out 1; have hcz8_0 := vZ0 BK230; have hcz8_1 := vZ1 BK230; have hfz8_0 := kF BK230.out 0; have hfz8_1 := kF BK230.out 1))
  go_ret
  exact ⟨wQ, bE⟩
 ·rw [if_neg c3] at H; have c3b0 := decide_eq_false c3; clear c3
  by_cases c9 : a0_0 = a1_0
  ·rw [if_pos c9] at H; have c9b0 : (a0_0 == a1_0) = true := beq_iff_eq.mpr c9; have c9b1 : (a0_0 != a1_0) = false := bne_eq_false_iff_eq.mpr c9; clear c9; obtain rfl := Option.some.inj H
   go_enter Try.func141, Try.ntmps141
   go_wp2_with (first | ((with_reducible refine gate_dst (N := 2) rfl ?_); refine bV 2 (cs := #[.int .i64 a0_0, .int .i64 a0_1]) (t := 50) rfl rfl (by first | (go_simp; done) | (go_simp; rfl)) ?_; intro gb229 hg w10 hbox hb; have BK229 := hbox; have GW229 := gZ HB hg; have GE229 := gZ HB hg; replace HB := tB HB hb; clear hb hbox hg) | ((with_reducible refine gate_dst (N := 3) rfl ?_); refine bV 3 (cs := #[.int .i64 a1_0, .int .i64 a1_1]) (t := 50) rfl rfl (by first | (go_simp; done) | (go_simp; rfl)) ?_; intro gb230 hg w11 hbox hb; have BK230 := hbox; have GW230 := gZ HB hg; have GE230 := gZ HB hg; have NB229_230 := nG BK229 hg; have NB230_229 := nH BK229 hg; replace BK229 := bB BK229 hb; replace HB := tB HB hb; clear hb hbox hg; have hnb12 := NB229_230.out; have hnc12 := NB230_229.out; have hcz13_0 := vZ0 BK229; have hcz13_1 := vZ1 BK229; have hfz13_0 := kF BK229.out 0; have hfz13_1 := kF BK229.out 1; have hcz14_0 := vZ0 BK230; have hcz14_1 := vZ1 BK230; have hfz14_0 := kF BK230.out 0; have hfz14_1 := kF BK230.out 1))
   go_ret
   exact ⟨wQ, bE⟩
  ·rw [if_neg c9] at H; have c9b0 : (a0_0 == a1_0) = false := beq_eq_false_iff_ne.mpr c9; have c9b1 : (a0_0 != a1_0) = true := bne_iff_ne.mpr c9; obtain rfl := Option.some.inj H
   go_enter Try.func141, Try.ntmps141
   go_wp2_with (first | ((with_reducible refine gate_dst (N := 2) rfl ?_); refine bV 2 (cs := #[.int .i64 a0_0, .int .i64 a0_1]) (t := 50) rfl rfl (by first | (go_simp; done) | (go_simp; rfl)) ?_; intro gb229 hg w15 hbox hb; have BK229 := hbox; have GW229 := gZ HB hg; have GE229 := gZ HB hg; replace HB := tB HB hb; clear hb hbox hg) | ((with_reducible refine gate_dst (N := 3) rfl ?_); refine bV 3 (cs := #[.int .i64 a1_0, .int .i64 a1_1]) (t := 50) rfl rfl (by first | (go_simp; done) | (go_simp; rfl)) ?_; intro gb230 hg w16 hbox hb; have BK230 := hbox; have GW230 := gZ HB hg; have GE230 := gZ HB hg; have NB229_230 := nG BK229 hg; have NB230_229 := nH BK229 hg; replace BK229 := bB BK229 hb; replace HB := tB HB hb; clear hb hbox hg; have hnb17 := NB229_230.out; have hnc17 := NB230_229.out; have hcz18_0 := vZ0 BK229; have hcz18_1 := vZ1 BK229; have hfz18_0 := kF BK229.out 0; have hfz18_1 := kF BK229.out 1; have hcz19_0 := vZ0 BK230; have hcz19_1 := vZ1 BK230; have hfz19_0 := kF BK230.out 0; have hfz19_1 := kF BK230.out 1))
   go_ret
   exact ⟨wQ, bE⟩

end Go.Proofs.Ytfihohongkfibaa.X
