-- thin
-- short
-- compact
import Derived.Test.YtoeclfihlhmnpaaXA
import Derived.Test.YtoeclfihlhmnpaaX0
import Derived.Test.YtoeclfihlhmnpaaX9
import Derived.Test.YtoeclfihlhmnpaaX10
import Derived.Test.YtoeclfihlhmnpaaXW3
import Derived.Test.YtoeclfihlhmnpaaXL
namespace Go.Proofs.Ytoeclfihlhmnpaa.X
open Go.RowKit Go.Proofs.Ytoeclfihlhmnpaa.XW Go.Proofs.YtoeclfihlhmnpaaW.PrintWords Go.Proofs.YtoeclfihlhmnpaaW.PrintLast Go.Proofs.YtoeclfihlhmnpaaW.PrintMore
attribute [local go_sem] max2_int min2_int max_two min_two max_three min_three max_four min_four   -- for this text's walks alone
set_option linter.unusedVariables false
set_option linter.unusedSimpArgs false

def slices_DeleteFunc_impl_Peg_at_impl_Puzzle_solutions_1.l0 : Nat → List (S_impl_Peg) → Int → Int → List (S_impl_Clue) → Option ((List (S_impl_Peg)))
 | 0, _, _, _, _ => none
 | k + 1, x0, x5, x6, x2000 => if x6 < (x0.length : Int) then (if 0 ≤ x6 then ((impl_Puzzle_solutions_1.f k ((rd_impl_Peg x0 x6).f0) ((rd_impl_Peg x0 x6).f1) x2000).bind fun t313 => (if t313 = true then (slices_DeleteFunc_impl_Peg_at_impl_Puzzle_solutions_1.l0 k x0 x5 (wrap64 (x6 + 1)) x2000) else (if 0 ≤ x5 then (if x5 < (x0.length : Int) then (slices_DeleteFunc_impl_Peg_at_impl_Puzzle_solutions_1.l0 k (x0.set (x5 : Int).toNat (⟨(rd_impl_Peg x0 x6).f0, (rd_impl_Peg x0 x6).f1⟩ : S_impl_Peg)) (wrap64 (x5 + 1)) (wrap64 (x6 + 1)) x2000) else (none)) else (none)))) else (none)) else (if 0 ≤ x5 then (if x5 ≤ (x0.length : Int) then (some (x0.take (x5 : Int).toNat)) else (none)) else (none))
def slices_DeleteFunc_impl_Peg_at_impl_Puzzle_solutions_1.f (k : Nat) (l0 : List (S_impl_Peg)) (l1_0 : List (S_impl_Clue)) : Option ((List (S_impl_Peg))) := (slices_IndexFunc_impl_Peg_at_impl_Puzzle_solutions_1.f k l0 l1_0).bind fun t310 => (if t310 = (-1) then (some l0) else (slices_DeleteFunc_impl_Peg_at_impl_Puzzle_solutions_1.l0 k l0 t310 (wrap64 (t310 + 1)) l1_0))
theorem slices_DeleteFunc_impl_Peg_at_impl_Puzzle_solutions_1.mono_l : ∀ k, (∀ y0 y1 y2 y3, LeO (slices_DeleteFunc_impl_Peg_at_impl_Puzzle_solutions_1.l0 k y0 y1 y2 y3) (slices_DeleteFunc_impl_Peg_at_impl_Puzzle_solutions_1.l0 (k + 1) y0 y1 y2 y3))
 | 0 => fun _ _ _ _ r h => by simp [slices_DeleteFunc_impl_Peg_at_impl_Puzzle_solutions_1.l0] at h
 | k + 1 => by
  have ih0 := slices_DeleteFunc_impl_Peg_at_impl_Puzzle_solutions_1.mono_l k
  ·intro y0 y1 y2 y3
   unfold slices_DeleteFunc_impl_Peg_at_impl_Puzzle_solutions_1.l0
   repeat' first
   | (with_reducible exact ih0 _ _ _ _)
   | (with_reducible exact impl_Puzzle_solutions_1.mono _ _ _ _)
   | (with_reducible exact slices_IndexFunc_impl_Peg_at_impl_Puzzle_solutions_1.mono _ _ _)
   | (with_reducible exact LeO.refl _)
   | (with_reducible exact LeO.none _)
   | (with_reducible refine LeO.ite ?_ ?_)
   | (with_reducible refine LeO.bind ?_ (fun _ => ?_))
   | exact ih0 _ _ _ _
   | exact impl_Puzzle_solutions_1.mono _ _ _ _
   | exact slices_IndexFunc_impl_Peg_at_impl_Puzzle_solutions_1.mono _ _ _
   | exact LeO.none _
   | refine LeO.ite ?_ ?_
   | refine LeO.bind ?_ (fun _ => ?_)
theorem slices_DeleteFunc_impl_Peg_at_impl_Puzzle_solutions_1.mono : ∀ a0 a1 k, LeO (slices_DeleteFunc_impl_Peg_at_impl_Puzzle_solutions_1.f k a0 a1) (slices_DeleteFunc_impl_Peg_at_impl_Puzzle_solutions_1.f (k + 1) a0 a1) := by
 intro a0 a1 k
 have ih0 := slices_DeleteFunc_impl_Peg_at_impl_Puzzle_solutions_1.mono_l k
 unfold slices_DeleteFunc_impl_Peg_at_impl_Puzzle_solutions_1.f
 repeat' first | (with_reducible exact ih0 _ _ _ _) | (with_reducible exact impl_Puzzle_solutions_1.mono _ _ _ _) | (with_reducible exact slices_IndexFunc_impl_Peg_at_impl_Puzzle_solutions_1.mono _ _ _) | (with_reducible exact LeO.refl _) | (with_reducible exact LeO.none _) | (with_reducible refine LeO.ite ?_ ?_) | (with_reducible refine LeO.bind ?_ (fun _ => ?_)) | exact ih0 _ _ _ _ | exact impl_Puzzle_solutions_1.mono _ _ _ _ | exact slices_IndexFunc_impl_Peg_at_impl_Puzzle_solutions_1.mono _ _ _ | exact LeO.none _ | refine LeO.ite ?_ ?_ | refine LeO.bind ?_ (fun _ => ?_)
set_option maxHeartbeats 8000000 in
set_option maxRecDepth 100000 in
theorem slices_DeleteFunc_impl_Peg_at_impl_Puzzle_solutions_1.calls (k : Nat) (P0_ : Nat → Prop) (u9000_ : Value) (l0 : List (S_impl_Peg)) (gx1 : Nat) (A1_0 : Option Addr) (c1_0 : Nat) (l1_0 : List (S_impl_Clue)) (r : List (S_impl_Peg)) (w0 w : World) (hB : Below w0.heap.size w0 w) (ho0 : Kd.R kd_impl_Peg 41 w w0.heap.size P0_ u9000_ l0) (hr1_0 : ∀ W_, Kept w W_ (fun k_ => P0_ k_) → Kd.C kd_impl_Clue W_ A1_0 l1_0.length l1_0) (hc1_0 : l1_0.length ≤ c1_0) (hbx1 : w.heap[gx1]? = some (.cells #[.slice A1_0 l1_0.length c1_0] 29 (0, 0))) (h : slices_DeleteFunc_impl_Peg_at_impl_Puzzle_solutions_1.f k l0 l1_0 = some r) :
  Calls Try.prog 98 #[u9000_, .func (.func 100) #[] #[.pointer (some ⟨gx1, 0, none⟩)]] w fun e w' => ∃ v0_ : Value, e = .returned (v0_) ∧ Kd.R kd_impl_Peg 41 w' w0.heap.size (fun k_ => (P0_ k_ ∨ w.heap.size ≤ k_)) v0_ r ∧ Below w0.heap.size w0 w' ∧ Kept w w' (fun k_ => P0_ k_) := by
 have hu41 := Try.underlying41; have HO0 := aM (show Kd.R kd_impl_Peg 41 w w0.heap.size (fun k_ => (P0_ k_ ∨ w.heap.size ≤ k_)) u9000_ l0 from Kd.R_mono ho0 (fun k_ hk => (.inl hk))); have HR1_0 := aM hr1_0; have HC1_0 := aM hc1_0; clear hr1_0 hc1_0; have BK1 := aM hbx1; clear hbx1; have HK := aM (Kept.refl w (fun k_ => P0_ k_)); have HW0 := aM hB.size; have HB := aM hB; clear hB
 unfold slices_DeleteFunc_impl_Peg_at_impl_Puzzle_solutions_1.f at h; have H := h; clear h
 replace H := bS H; obtain ⟨t310, A3, H⟩ := H
 by_cases c4 : t310 = (-1)
 ·rw [if_pos c4] at H; have c4b0 : (t310 == (-1)) = true := beq_iff_eq.mpr c4; have c4b1 : (t310 != (-1)) = false := bne_eq_false_iff_eq.mpr c4; clear c4; obtain rfl := Option.some.inj H; obtain ⟨Ao5, co5, eo5⟩ := Kd.R_slice HO0.out; subst eo5
  go_enter Try.func98, Try.ntmps98
  go_wp2_with (first | ((with_reducible refine gC (f := 114) rfl ?_); refine goesL_ (some 10) rfl rfl Try.func114 kR rfl #[.slice Ao5 l0.length co5, .func (.func 100) #[] #[.pointer (some ⟨gx1, 0, none⟩)]] rfl sQ ?_; (with_reducible refine (slices_IndexFunc_impl_Peg_at_impl_Puzzle_solutions_1.calls k _ _ l0 gx1 A1_0 c1_0 l1_0 t310 _ ?side1 ?side2 ?side3 ?side4 ?side5 A3.out).mono ?_); (case side1 => repeat (first | exact (rR HO0.out).2.2 | (with_reducible refine cA ?_ _) | (with_reducible refine cN ?_ _) | (with_reducible refine cD ?_))); (case side2 => exact (rR HO0.out).2.1); (case side3 => exact Kd.C_kept_now HR1_0.out (by repeat (first | (with_reducible first | exact HK.out | apply Kept.alloc | apply Kept.drewN | apply Kept.drew | refine Kept.setCell ?_ (.inr GW1.out) _) | exact HK.out))); (case side4 => exact HC1_0.out); (case side5 => exact (gQ BK1)); rintro e w6 ⟨rfl, hb⟩; refine ⟨_, rfl, ?_⟩; replace HO0 := aM (Kd.R_below (by (with_reducible repeat (first | apply rA | apply rN | apply rD)); exact HO0.out) hb); replace BK1 := aM (blk_below (g := gx1) (o := .cells #[.slice A1_0 l1_0.length c1_0] 29 (0, 0)) (gQ BK1) hb); replace HK := aM (Kept.below (S := (fun k_ => P0_ k_)) (by repeat (first | (with_reducible first | exact HK.out | apply Kept.alloc | apply Kept.drewN | apply Kept.drew | refine Kept.setCell ?_ (.inr GW1.out) _) | exact HK.out)) hb); replace HB := tB HB hb; (try clear hb); (try clear hb2); (try clear hk); (try clear hi)))
  go_ret
  exact ⟨_, by first | rfl | (simp [errW_none, errW_some] <;> rfl) | (simp [*, errW_none, errW_some] <;> rfl), by (with_reducible repeat (first | apply rA | apply rN | apply rD)); exact HO0.out, by repeat (first | (with_reducible first | exact HB.out | apply pA | apply pN | apply pD | refine pS ?_ GE1.out) | exact HB.out), by repeat (first | (with_reducible first | exact HK.out | apply Kept.alloc | apply Kept.drewN | apply Kept.drew | refine Kept.setCell ?_ (.inr GW1.out) _) | exact HK.out)⟩
 ·rw [if_neg c4] at H; have c4b0 : (t310 == (-1)) = false := beq_eq_false_iff_ne.mpr c4; have c4b1 : (t310 != (-1)) = true := bne_iff_ne.mpr c4; have H' := aM H; clear H; obtain ⟨Ao7, co7, eo7⟩ := Kd.R_slice HO0.out; subst eo7
  go_enter Try.func98, Try.ntmps98
  go_wp2_with (first | ((with_reducible refine gC (f := 114) rfl ?_); refine goesL_ (some 10) rfl rfl Try.func114 kR rfl #[.slice Ao7 l0.length co7, .func (.func 100) #[] #[.pointer (some ⟨gx1, 0, none⟩)]] rfl sQ ?_; (with_reducible refine (slices_IndexFunc_impl_Peg_at_impl_Puzzle_solutions_1.calls k _ _ l0 gx1 A1_0 c1_0 l1_0 t310 _ ?side1 ?side2 ?side3 ?side4 ?side5 A3.out).mono ?_); (case side1 => repeat (first | exact (rR HO0.out).2.2 | (with_reducible refine cA ?_ _) | (with_reducible refine cN ?_ _) | (with_reducible refine cD ?_))); (case side2 => exact (rR HO0.out).2.1); (case side3 => exact Kd.C_kept_now HR1_0.out (by repeat (first | (with_reducible first | exact HK.out | apply Kept.alloc | apply Kept.drewN | apply Kept.drew | refine Kept.setCell ?_ (.inr GW1.out) _) | exact HK.out))); (case side4 => exact HC1_0.out); (case side5 => exact (gQ BK1)); rintro e w8 ⟨rfl, hb⟩; refine ⟨_, rfl, ?_⟩; replace HO0 := aM (Kd.R_below (by (with_reducible repeat (first | apply rA | apply rN | apply rD)); exact HO0.out) hb); replace BK1 := aM (blk_below (g := gx1) (o := .cells #[.slice A1_0 l1_0.length c1_0] 29 (0, 0)) (gQ BK1) hb); replace HK := aM (Kept.below (S := (fun k_ => P0_ k_)) (by repeat (first | (with_reducible first | exact HK.out | apply Kept.alloc | apply Kept.drewN | apply Kept.drew | refine Kept.setCell ?_ (.inr GW1.out) _) | exact HK.out)) hb); replace HB := tB HB hb; (try clear hb); (try clear hb2); (try clear hk); (try clear hi)))
  go_loopg [5, 6] k (fun kq v5 v6 w' => ∃ (x0_1 : List (S_impl_Peg)) (x5_1 : Int) (x6_1 : Int), v5 = .int .i64 x5_1 ∧ v6 = .int .i64 x6_1 ∧ Aside0 (slices_DeleteFunc_impl_Peg_at_impl_Puzzle_solutions_1.l0 kq x0_1 x5_1 x6_1 l1_0 = some r) ∧ Aside0 (kq ≤ k) ∧ Aside0 (Kd.R kd_impl_Peg 41 w' w0.heap.size (fun k_ => (P0_ k_ ∨ w.heap.size ≤ k_)) (.slice Ao7 l0.length co7) x0_1) ∧ Aside0 (w'.heap[gx1]? = some (.cells #[(.slice A1_0 l1_0.length c1_0)] 29 (0, 0))) ∧ Aside0 (Kept w w' (fun k_ => P0_ k_)) ∧ Aside0 (Below w0.heap.size w0 w'))
  case atStart => exact ⟨(l0), (t310), (wrap64 (t310 + 1)), eQ, eQ, H', ⟨Nat.le_refl _⟩, ⟨by (with_reducible repeat (first | apply rA | apply rN | apply rD)); exact HO0.out⟩, ⟨gQ BK1⟩, ⟨by repeat (first | (with_reducible first | exact HK.out | apply Kept.alloc | apply Kept.drewN | apply Kept.drew | refine Kept.setCell ?_ (.inr GW1.out) _) | exact HK.out)⟩, ⟨bE⟩⟩
  case round =>
   clear H'; (try clear c4); (try clear c4b0); (try clear c4b1); obtain ⟨x0_1, x5_1, x6_1, rfl, rfl, HA, HK1, HO_0, BK1, HK, HB⟩ := hrel; have hl0_1 := (rR HO_0.out).1; rw [hl0_1] at HO_0
   (try simp only [hl0_1])
   (try simp only [hl0_1] at BK1)
   cases gk with
   | zero => exact absurd HA.out (by simp [slices_DeleteFunc_impl_Peg_at_impl_Puzzle_solutions_1.l0])
   | succ k1 =>
    have H := HA.out; clear HA
    simp only [slices_DeleteFunc_impl_Peg_at_impl_Puzzle_solutions_1.l0] at H
    by_cases c9 : x6_1 < (x0_1.length : Int)
    ·rw [if_pos c9] at H; have c9b0 := dE c9; clear c9; replace H := iD H; obtain ⟨c10b0, H⟩ := H; replace H := bS H; obtain ⟨t313, A11, H⟩ := H
     by_cases c12 : t313 = true
     ·subst c12; replace H := iT H; have H' := aM H; clear H; have p311 : 0 ≤ (x6_1 : Int) := dT aQ; have q311 : x6_1 < (x0_1.length : Int) := dT aQ; obtain ⟨ad311, e311, hx311_0, hx311_1⟩ := at_impl_Peg (rR HO_0.out).2.2 x6_1 p311 q311
      cases e311
      replace p311 := eq_true p311; replace q311 := eq_true q311
      go_wp2_with (first | ((with_reducible refine gate_dst (N := 7) rfl ?_); refine bV 7 (cs := #[.int .i64 0, .int .i64 0]) (t := 41) rfl rfl (by first | (go_simp; done) | (go_simp; rfl)) ?_; intro gb312 hg w13 hbox hb; have BK312 := hbox; have GW312 := aM ((by rw [hg]; exact (by first | exact HK.out.1 | exact (show Kept w _ (fun k_ => P0_ k_) from by repeat (first | (with_reducible first | exact HK.out | apply Kept.alloc | apply Kept.drewN | apply Kept.drew | refine Kept.setCell ?_ (.inr GW1.out) _) | exact HK.out)).1) : w.heap.size ≤ gb312)); have GE312 := aM ((by rw [hg]; exact (pZ bE) : w0.heap.size ≤ gb312)); have NB1_312 := aM ((by rw [hg]; exact nN (blk_lt (g := gx1) (o := .cells #[.slice A1_0 l1_0.length c1_0] 29 (0, 0)) (gQ BK1)) : gx1 ≠ gb312)); have NB312_1 := aM ((by rw [hg]; exact Nat.ne_of_gt (blk_lt (g := gx1) (o := .cells #[.slice A1_0 l1_0.length c1_0] 29 (0, 0)) (gQ BK1)) : gb312 ≠ gx1)); replace HO_0 := aM (Kd.R_below (Kd.R_elderB (by (with_reducible repeat (first | apply rA | apply rN | apply rD)); exact HO_0.out) gb312 (Nat.le_of_eq hg.symm)) hb); replace BK1 := aM (blk_below (g := gx1) (o := .cells #[.slice A1_0 l1_0.length c1_0] 29 (0, 0)) (gQ BK1) hb); replace HK := aM (Kept.below (S := (fun k_ => P0_ k_)) (by repeat (first | (with_reducible first | exact HK.out | apply Kept.alloc | apply Kept.drewN | apply Kept.drew | refine Kept.setCell ?_ (.inr GW1.out) _) | exact HK.out)) hb); replace HB := tB HB hb; clear hb hbox hg; have hnb14 := NB312_1.out; have hnc14 := NB1_312.out; have hcz15_0 := vZ0 BK312; have hcz15_1 := vZ1 BK312; have hfz15_0 := kF BK312.out 0; have hfz15_1 := kF BK312.out 1) | ((with_reducible refine gate_tmp rfl ?_); refine goesLTC_ (some 28) rfl rfl Try.func100 kR rfl #[.agg #[.int .i64 ((rd_impl_Peg x0_1 x6_1).f0), .int .i64 ((rd_impl_Peg x0_1 x6_1).f1)], .pointer (some ⟨gx1, 0, none⟩)] #[] #[.pointer (some ⟨gx1, 0, none⟩)] rfl (by first | rfl | (simp [Act.eval]; done)) (by (try simp only [mA, mC, mN, List.append_toArray, List.nil_append, List.cons_append, List.append_nil]); (try simp only [mA, mC, mN]); first | done | rfl | (simp only [lD, lT]; rfl)) ?_; (with_reducible refine (impl_Puzzle_solutions_1.calls k1 ((rd_impl_Peg x0_1 x6_1).f0) ((rd_impl_Peg x0_1 x6_1).f1) gx1 A1_0 c1_0 l1_0 true _ ?side1 ?side2 ?side3 A11.out).mono ?_); (case side1 => exact Kd.C_kept_now HR1_0.out (by repeat (first | (with_reducible first | exact HK.out | apply Kept.alloc | apply Kept.drewN | apply Kept.drew | refine Kept.setCell ?_ (.inr GW1.out) _ | refine Kept.setCell ?_ (.inr GW312.out) _) | exact HK.out))); (case side2 => exact HC1_0.out); (case side3 => exact (fQ BK1)); rintro e w16 ⟨rfl, hb⟩; refine ⟨_, rfl, ?_⟩; replace HO_0 := aM (Kd.R_below (by (with_reducible repeat (first | apply rA | apply rN | apply rD)); exact (Kd.R_mono (Kd.R_far (p := ⟨gb312, 1, none⟩) (Kd.R_far (p := ⟨gb312, 0, none⟩) (Kd.R_mono HO_0.out (fun k_ hk => (⟨hk, hk.2⟩ : _ ∧ k_ ≠ gb312))) (fun _ hk => hk.2) (.int .i64 ((rd_impl_Peg x0_1 x6_1).f0))) (fun _ hk => hk.2) (.int .i64 ((rd_impl_Peg x0_1 x6_1).f1))) (fun _ h_ => h_.1))) hb); replace BK1 := aM (blk_below (g := gx1) (o := .cells #[.slice A1_0 l1_0.length c1_0] 29 (0, 0)) (fQ BK1) hb); replace BK312 := aM (blk_below (g := gb312) (o := .cells #[.int .i64 ((rd_impl_Peg x0_1 x6_1).f0), .int .i64 ((rd_impl_Peg x0_1 x6_1).f1)] 41 (0, 0)) (fQ BK312) hb); replace HK := aM (Kept.below (S := (fun k_ => P0_ k_)) (by repeat (first | (with_reducible first | exact HK.out | apply Kept.alloc | apply Kept.drewN | apply Kept.drew | refine Kept.setCell ?_ (.inr GW1.out) _ | refine Kept.setCell ?_ (.inr GW312.out) _) | exact HK.out)) hb); replace HB := tB HB hb; (try clear hb); (try clear hb2); (try clear hk); (try clear hi)))
      (try simp only [← hl0_1])
      go_roundg k1
      case measure => have := HK1.out; omega
      case rel => exact ⟨(x0_1), (x5_1), (wrap64 (x6_1 + 1)), eQ, eQ, H', ⟨by have := HK1.out; omega⟩, ⟨by (try simp only [hl0_1]); (with_reducible repeat (first | apply rA | apply rN | apply rD)); exact Kd.R_mono HO_0.out (fun _ hk => hk.1)⟩, ⟨by (try simp only [hl0_1]); (with_reducible repeat (first | refine kN ?_ _ | refine kD ?_ | refine kA ?_ _)); exact BK1.out⟩, ⟨by repeat (first | (with_reducible first | exact HK.out | apply Kept.alloc | apply Kept.drewN | apply Kept.drew | refine Kept.setCell ?_ (.inr GW1.out) _ | refine Kept.setCell ?_ (.inr GW312.out) _) | exact HK.out)⟩, ⟨bE⟩⟩
     ·replace c12 := Bool.eq_false_iff.mpr c12; subst c12; replace H := iF H; replace H := iD H; obtain ⟨c17b0, H⟩ := H; replace H := iD H; obtain ⟨c18b0, H⟩ := H; obtain ⟨y314, hy314⟩ : ∃ y_ : List (S_impl_Peg), y_ = (x0_1.set (x5_1 : Int).toNat (⟨(rd_impl_Peg x0_1 x6_1).f0, (rd_impl_Peg x0_1 x6_1).f1⟩ : S_impl_Peg)) := ⟨_, rfl⟩; rw [← hy314] at H; have Ny314 := aM hy314; clear hy314; have H' := aM H; clear H; have p311 : 0 ≤ (x6_1 : Int) := dT aQ; have q311 : x6_1 < (x0_1.length : Int) := dT aQ; obtain ⟨ad311, e311, hx311_0, hx311_1⟩ := at_impl_Peg (rR HO_0.out).2.2 x6_1 p311 q311
      cases e311
      replace p311 := eq_true p311; replace q311 := eq_true q311
      go_wp2_with (first | ((with_reducible refine gate_dst (N := 7) rfl ?_); refine bV 7 (cs := #[.int .i64 0, .int .i64 0]) (t := 41) rfl rfl (by first | (go_simp; done) | (go_simp; rfl)) ?_; intro gb312 hg w20 hbox hb; have BK312 := hbox; have GW312 := aM ((by rw [hg]; exact (by first | exact HK.out.1 | exact (show Kept w _ (fun k_ => P0_ k_) from by repeat (first | (with_reducible first | exact HK.out | apply Kept.alloc | apply Kept.drewN | apply Kept.drew | refine Kept.setCell ?_ (.inr GW1.out) _) | exact HK.out)).1) : w.heap.size ≤ gb312)); have GE312 := aM ((by rw [hg]; exact (pZ bE) : w0.heap.size ≤ gb312)); have NB1_312 := aM ((by rw [hg]; exact nN (blk_lt (g := gx1) (o := .cells #[.slice A1_0 l1_0.length c1_0] 29 (0, 0)) (gQ BK1)) : gx1 ≠ gb312)); have NB312_1 := aM ((by rw [hg]; exact Nat.ne_of_gt (blk_lt (g := gx1) (o := .cells #[.slice A1_0 l1_0.length c1_0] 29 (0, 0)) (gQ BK1)) : gb312 ≠ gx1)); replace HO_0 := aM (Kd.R_below (Kd.R_elderB (by (with_reducible repeat (first | apply rA | apply rN | apply rD)); exact HO_0.out) gb312 (Nat.le_of_eq hg.symm)) hb); replace BK1 := aM (blk_below (g := gx1) (o := .cells #[.slice A1_0 l1_0.length c1_0] 29 (0, 0)) (gQ BK1) hb); replace HK := aM (Kept.below (S := (fun k_ => P0_ k_)) (by repeat (first | (with_reducible first | exact HK.out | apply Kept.alloc | apply Kept.drewN | apply Kept.drew | refine Kept.setCell ?_ (.inr GW1.out) _) | exact HK.out)) hb); replace HB := tB HB hb; clear hb hbox hg; have hnb21 := NB312_1.out; have hnc21 := NB1_312.out; have hcz22_0 := vZ0 BK312; have hcz22_1 := vZ1 BK312; have hfz22_0 := kF BK312.out 0; have hfz22_1 := kF BK312.out 1) | ((with_reducible refine gate_tmp rfl ?_); refine goesLTC_ (some 28) rfl rfl Try.func100 kR rfl #[.agg #[.int .i64 ((rd_impl_Peg x0_1 x6_1).f0), .int .i64 ((rd_impl_Peg x0_1 x6_1).f1)], .pointer (some ⟨gx1, 0, none⟩)] #[] #[.pointer (some ⟨gx1, 0, none⟩)] rfl (by first | rfl | (simp [Act.eval]; done)) (by (try simp only [mA, mC, mN, List.append_toArray, List.nil_append, List.cons_append, List.append_nil]); (try simp only [mA, mC, mN]); first | done | rfl | (simp only [lD, lT]; rfl)) ?_; (with_reducible refine (impl_Puzzle_solutions_1.calls k1 ((rd_impl_Peg x0_1 x6_1).f0) ((rd_impl_Peg x0_1 x6_1).f1) gx1 A1_0 c1_0 l1_0 false _ ?side1 ?side2 ?side3 A11.out).mono ?_); (case side1 => exact Kd.C_kept_now HR1_0.out (by repeat (first | (with_reducible first | exact HK.out | apply Kept.alloc | apply Kept.drewN | apply Kept.drew | refine Kept.setCell ?_ (.inr GW1.out) _ | refine Kept.setCell ?_ (.inr GW312.out) _) | exact HK.out))); (case side2 => exact HC1_0.out); (case side3 => exact (fQ BK1)); rintro e w23 ⟨rfl, hb⟩; refine ⟨_, rfl, ?_⟩; replace HO_0 := aM (Kd.R_below (by (with_reducible repeat (first | apply rA | apply rN | apply rD)); exact (Kd.R_mono (Kd.R_far (p := ⟨gb312, 1, none⟩) (Kd.R_far (p := ⟨gb312, 0, none⟩) (Kd.R_mono HO_0.out (fun k_ hk => (⟨hk, hk.2⟩ : _ ∧ k_ ≠ gb312))) (fun _ hk => hk.2) (.int .i64 ((rd_impl_Peg x0_1 x6_1).f0))) (fun _ hk => hk.2) (.int .i64 ((rd_impl_Peg x0_1 x6_1).f1))) (fun _ h_ => h_.1))) hb); replace BK1 := aM (blk_below (g := gx1) (o := .cells #[.slice A1_0 l1_0.length c1_0] 29 (0, 0)) (fQ BK1) hb); replace BK312 := aM (blk_below (g := gb312) (o := .cells #[.int .i64 ((rd_impl_Peg x0_1 x6_1).f0), .int .i64 ((rd_impl_Peg x0_1 x6_1).f1)] 41 (0, 0)) (fQ BK312) hb); replace HK := aM (Kept.below (S := (fun k_ => P0_ k_)) (by repeat (first | (with_reducible first | exact HK.out | apply Kept.alloc | apply Kept.drewN | apply Kept.drew | refine Kept.setCell ?_ (.inr GW1.out) _ | refine Kept.setCell ?_ (.inr GW312.out) _) | exact HK.out)) hb); replace HB := tB HB hb; (try clear hb); (try clear hb2); (try clear hk); (try clear hi); have hcz24_0 := vZ0 BK312; have hcz24_1 := vZ1 BK312; have hfz24_0 := kF BK312.out 0; have hfz24_1 := kF BK312.out 1; have p19 : 0 ≤ (x5_1 : Int) := dT aQ; have q19 : (x5_1 : Int) < ((x0_1.length : Int) : Int) := dT aQ; obtain ⟨go19, co19, eo19, gb19, gl19, cl19, HG19⟩ := Kd.R_form HO_0.out (by omega); (first | cases eo19 | (injection eo19 with ea_ en_ ec_; (first | subst ea_ | (injection ea_ with ea_; subst ea_)); subst ec_; clear en_)); have GB19 := aM gb19; have GG19 := aM HG19; clear gb19 gl19 HG19; have HMgo19 := aM (show (P0_ go19 ∨ w.heap.size ≤ go19) from (HO_0.out.1 _ rfl).1); (first | simp only [add_plain] at hx311_0 | skip); (first | simp only [add_plain] at hx311_1 | skip); obtain ⟨ce19, hcl19, hM19, hcc19, hfr19⟩ := Kd.R_elem HO_0.out z_impl_Peg (x5_1 : Int) p19 q19; obtain rfl := kd_impl_Peg_openM hM19; have hx19_0 : w23.cell? ⟨go19, (x5_1 : Int).toNat * 2, none⟩ = some (.int .i64 ((rd_impl_Peg x0_1 x5_1).f0)) := hcc19 0 _ rfl; have hx19_1 : w23.cell? ⟨go19, (x5_1 : Int).toNat * 2 + 1, none⟩ = some (.int .i64 ((rd_impl_Peg x0_1 x5_1).f1)) := hcc19 1 _ rfl; have hf19_0 : w23.frozen? ⟨go19, (x5_1 : Int).toNat * 2, none⟩ = false := hfr19 0; have hf19_1 : w23.frozen? ⟨go19, (x5_1 : Int).toNat * 2 + 1, none⟩ = false := hfr19 1; clear hcl19 hcc19 hfr19 hM19; replace p19 := eq_true p19; replace q19 := eq_true q19; have HX25 := aM (show Kd.R kd_impl_Peg 41 w23 w0.heap.size (fun k_ => (P0_ k_ ∨ w.heap.size ≤ k_) ∧ k_ ≠ gb312) (.slice (some ⟨go19, 0, none⟩) x0_1.length co7) x0_1 from (by (with_reducible repeat (first | apply rA | apply rN | apply rD)); exact HO_0.out)); obtain ⟨ce25, hcl25, hM25, hcc25, hfr25⟩ := Kd.R_elem HX25.out z_impl_Peg (x5_1 : Int) (dT aQ) (by have h_ : (x5_1 : Int) < ((x0_1.length : Int) : Int) := dT aQ; first | exact h_ | (have e_ := (rR HO_0.out).1; omega) | simpa using h_); obtain rfl := kd_impl_Peg_openM hM25; have HP25 := Kd.R_seg HX25.out (x5_1 : Int) (dT aQ) (by have h_ : (x5_1 : Int) < ((x0_1.length : Int) : Int) := dT aQ; first | exact h_ | (have e_ := (rR HO_0.out).1; omega) | simpa using h_) (seg := [.int .i64 ((rd_impl_Peg x0_1 x6_1).f0), .int .i64 ((rd_impl_Peg x0_1 x6_1).f1)]) (j := 0) hcl25 hcc25 (show 2 ≤ 2 from by decide) (x' := (⟨(rd_impl_Peg x0_1 x6_1).f0, (rd_impl_Peg x0_1 x6_1).f1⟩ : S_impl_Peg)) (kd_impl_Peg_mkM _ _ _ (⟨(rd_impl_Peg x0_1 x6_1).f0, (rd_impl_Peg x0_1 x6_1).f1⟩ : S_impl_Peg) ) (fun _ hk => hk); have hx25_0 := hcc25 0 _ rfl; (try simp only [show (kd_impl_Peg).sz = 2 from rfl, Nat.mul_one, Nat.add_zero] at hx25_0); have hf25_0 := hfr25 0; (try simp only [show (kd_impl_Peg).sz = 2 from rfl, Nat.mul_one, Nat.add_zero] at hf25_0); have hx25_1 := hcc25 1 _ rfl; (try simp only [show (kd_impl_Peg).sz = 2 from rfl, Nat.mul_one, Nat.add_zero] at hx25_1); have hf25_1 := hfr25 1; (try simp only [show (kd_impl_Peg).sz = 2 from rfl, Nat.mul_one, Nat.add_zero] at hf25_1); clear hcl25 hcc25 hfr25 hM25) | ((with_reducible refine gate_store (t := 41) (p := 33) rfl ?_); refine store_event (t := 41) (p := 33) (v := ?vo_w26) (w1 := ((w23.setCell ⟨go19, (x5_1 : Int).toNat * 2, none⟩ (.int .i64 ((rd_impl_Peg x0_1 x6_1).f0))).setCell ⟨go19, (x5_1 : Int).toNat * 2 + 1, none⟩ (.int .i64 ((rd_impl_Peg x0_1 x6_1).f1)))) ?hg ?ho ?hn ?hr ?_; (case ho => rfl); (case hg => rfl); (case hn => rfl); (case hr => first | (go_simp; done) | (go_simp; rfl)); intro w26 hw; have hg : w23.grownBy w26 (some go19) := (by rw [hw]; exact HP25.2); have hp_ : Kd.R kd_impl_Peg 41 w26 w0.heap.size (fun k_ => (P0_ k_ ∨ w.heap.size ≤ k_) ∧ k_ ≠ gb312) (.slice (some ⟨go19, 0, none⟩) x0_1.length co7) y314 := (by rw [hw, Ny314.out]; exact HP25.1); clear HP25; replace BK1 := aM (blk_grown (g := gx1) (o := .cells #[.slice A1_0 l1_0.length c1_0] 29 (0, 0)) (gQ BK1) hg (Kd.R_ne HO_0.out BK1.out (by decide))); replace BK312 := aM (blk_grown (g := gb312) (o := .cells #[.int .i64 ((rd_impl_Peg x0_1 x6_1).f0), .int .i64 ((rd_impl_Peg x0_1 x6_1).f1)] 41 (0, 0)) (gQ BK312) hg (Kd.R_away HO_0.out (fun _ hk => hk.2))); replace HB := aM ((by rw [hw]; exact pS (pS (HB.out) GB19.out) GB19.out : Below w0.heap.size w0 w26)); replace HK := aM (Kept.of_grown (S := (fun k_ => P0_ k_)) hg (by repeat (first | (with_reducible first | exact HK.out | apply Kept.alloc | apply Kept.drewN | apply Kept.drew | refine Kept.setCell ?_ (.inr GW1.out) _ | refine Kept.setCell ?_ (.inr GW312.out) _) | exact HK.out)) (fun k_ e_ => (HO_0.out.1 k_ e_).1)); replace HO_0 := aM (hp_); clear hg hw hp_))
      (try simp only [← hl0_1])
      go_roundg k1
      case measure => have := HK1.out; omega
      case rel => exact ⟨(y314), (wrap64 (x5_1 + 1)), (wrap64 (x6_1 + 1)), eQ, eQ, H', ⟨by have := HK1.out; omega⟩, ⟨by (try simp only [hl0_1]); (with_reducible repeat (first | apply rA | apply rN | apply rD)); exact Kd.R_mono HO_0.out (fun _ hk => hk.1)⟩, ⟨by (try simp only [hl0_1]); (with_reducible repeat (first | refine kN ?_ _ | refine kD ?_ | refine kA ?_ _)); exact BK1.out⟩, ⟨by repeat (first | (with_reducible first | exact HK.out | apply Kept.alloc | apply Kept.drewN | apply Kept.drew | refine Kept.setCell ?_ (.inr GW1.out) _ | refine Kept.setCell ?_ (.inr GW312.out) _) | exact HK.out)⟩, ⟨bE⟩⟩
    ·rw [if_neg c9] at H; have c9b0 := decide_eq_false c9; clear c9; replace H := iN H; obtain ⟨c27, H⟩ := H; have c27b0 := eq_true c27; have c27b1 := dE c27; clear c27; replace H := iN H; obtain ⟨c28, H⟩ := H; have c28b0 := eq_true c28; have c28b1 := dE c28; clear c28; obtain ⟨y315, hy315⟩ : ∃ y_ : List (S_impl_Peg), y_ = (x0_1.take (x5_1 : Int).toNat) := ⟨_, rfl⟩; rw [← hy315] at H; have Ny315 := aM hy315; clear hy315; obtain rfl := Option.some.inj H; have q29 : (x5_1 : Int) ≤ ((x0_1.length : Int) : Int) := dT aQ; obtain ⟨i029, hi029, _, hsz29, _⟩ := info_parts info41; have hcut29 := cut_to (P := Try.prog) 26 41 .i64 Try.underlying26 hi029 Ao7 x0_1.length co7 x5_1 (dT aQ) q29 (rR HO_0.out).2.1; have hcf_ := cut_from (P := Try.prog) 26 41 .i64 Try.underlying26 hi029 2 hsz29 Ao7 x0_1.length co7 x5_1 (dT aQ) q29; have hlk_ := (rR HO_0.out).2.1; obtain ⟨A_c, hA_c⟩ : ∃ A1, A1 = (if co7 = (x5_1 : Int).toNat then Ao7 else (Ao7 : Option Addr).map (·.add ((x5_1 : Int).toNat * 2))) := ⟨_, rfl⟩; obtain ⟨k_c, hk_c⟩ : ∃ k1, k1 = x0_1.length - (x5_1 : Int).toNat := ⟨_, rfl⟩; obtain ⟨c_c, hc_c⟩ : ∃ c1, c1 = co7 - (x5_1 : Int).toNat := ⟨_, rfl⟩; rw [← hA_c, ← hk_c, ← hc_c] at hcf_; have KA_ := aM hA_c; have KK_ := aM hk_c; have KL_ := aM hlk_; clear hA_c hk_c hc_c hlk_; have hr29 := Kd.R_take (m := (x5_1 : Int).toNat) HO_0.out (by omega)
     have hy29 : y315.length = (x5_1 : Int).toNat := (by rw [Ny315.out, lT]; omega)
     rw [← Ny315.out] at hr29; rw [← hy29] at hr29 hcut29; have KY_ := aM hy29; clear hy29 hi029 hsz29 HO_0; have HO317 := aM hr29; clear hr29; replace q29 := eq_true q29; have KQ_ := aM (dT (p := (x5_1 : Int) ≤ ((x0_1.length : Nat) : Int)) (by first | (with_reducible assumption) | assumption | simpa using q29))
     go_wp2_with (first | ((with_reducible refine gate_builtin (b := .clear) (xs := #[.tmp 38]) rfl ?_); refine Kd.R_clear_tail kd_impl_Peg (w0 := w0) w0.heap.size rfl (.tmp 38) 26 41 rfl Try.underlying26 (.agg #[(.int .i64 0), (.int .i64 0)]) kR rfl ?h1 (m := y315.length) (m' := (x5_1 : Int).toNat) (k := k_c) rfl KA_.out rfl ?hm ?hk (by (with_reducible repeat (first | apply rA | apply rN | apply rD)); exact HO317.out) bE (pZ bE) ?_; (case h1 => intro u_ hu_; simp [Value.cells] at hu_; (first | (rcases hu_ with rfl | rfl | rfl | rfl <;> rfl) | (rcases hu_ with rfl | rfl <;> rfl) | (subst hu_; rfl))); (case hm => exact KY_.out); (case hk => have h1_ := KK_.out; have h2_ := KY_.out; have h3_ := KL_.out; have h4_ := KQ_.out; omega); intro wk_ ho hb hg; have n0_ := aM ho; have n1_ := aM hb; have n2_ := aM (Kept.of_grown (S := (fun k_ => P0_ k_)) hg (by repeat (first | (with_reducible first | exact HK.out | apply Kept.alloc | apply Kept.drewN | apply Kept.drew | refine Kept.setCell ?_ (.inr GW1.out) _) | exact HK.out)) (fun k_ e_ => (HO317.out.1 k_ e_))); clear HO317 HB HK; have HO317 := n0_; have HB := n1_; have HK := n2_; clear n0_ n1_ n2_ ho hb hg))
     go_ret
     exact ⟨_, by first | rfl | (simp [errW_none, errW_some] <;> rfl) | (simp [*, errW_none, errW_some] <;> rfl), by (with_reducible repeat (first | apply rA | apply rN | apply rD)); exact HO317.out, by repeat (first | (with_reducible first | exact HB.out | apply pA | apply pN | apply pD | refine pS ?_ GE1.out) | exact HB.out), by repeat (first | (with_reducible first | exact HK.out | apply Kept.alloc | apply Kept.drewN | apply Kept.drew | refine Kept.setCell ?_ (.inr GW1.out) _) | exact HK.out)⟩
def impl_Puzzle_solutions.f (k : Nat) (a0_0 : Int) (l0_1 : List (S_impl_Clue)) (l1 : List (S_impl_Clue)) : Option ((List (S_impl_Peg))) := (impl_board.f k (wrap64 (a0_0 + 1)) (wrap64 (a0_0 + 1))).bind fun t320 => ((slices_DeleteFunc_impl_Peg_at_impl_Puzzle_solutions_1.f k t320 l1).bind fun t323 => (some t323))
theorem impl_Puzzle_solutions.mono : ∀ a0 a1 a2 k, LeO (impl_Puzzle_solutions.f k a0 a1 a2) (impl_Puzzle_solutions.f (k + 1) a0 a1 a2) := by
 intro a0 a1 a2 k
 unfold impl_Puzzle_solutions.f
 repeat' first | (with_reducible exact impl_board.mono _ _ _) | (with_reducible exact slices_DeleteFunc_impl_Peg_at_impl_Puzzle_solutions_1.mono _ _ _) | (with_reducible exact LeO.refl _) | (with_reducible exact LeO.none _) | (with_reducible refine LeO.ite ?_ ?_) | (with_reducible refine LeO.bind ?_ (fun _ => ?_)) | exact impl_board.mono _ _ _ | exact slices_DeleteFunc_impl_Peg_at_impl_Puzzle_solutions_1.mono _ _ _ | exact LeO.none _ | refine LeO.ite ?_ ?_ | refine LeO.bind ?_ (fun _ => ?_)
set_option maxHeartbeats 8000000 in
set_option maxRecDepth 100000 in
theorem impl_Puzzle_solutions.calls (k : Nat) (a0_0 : Int) (A0_1 : Option Addr) (c0_1 : Nat) (l0_1 : List (S_impl_Clue)) (A1 : Option Addr) (c1 : Nat) (l1 : List (S_impl_Clue)) (r : List (S_impl_Peg)) (w : World) (hr0_1 : Kd.C kd_impl_Clue w A0_1 l0_1.length l0_1) (hc0_1 : l0_1.length ≤ c0_1) (hr1 : Kd.C kd_impl_Clue w A1 l1.length l1) (hc1 : l1.length ≤ c1) (h : impl_Puzzle_solutions.f k a0_0 l0_1 l1 = some r) :
  Calls Try.prog 73 #[.agg #[.int .i64 a0_0, .slice A0_1 l0_1.length c0_1], .slice A1 l1.length c1] w fun e w' => ∃ v0_ : Value, e = .returned (v0_) ∧ Kd.R kd_impl_Peg 41 w' w.heap.size (fun _ => True) v0_ r ∧ Below w.heap.size w w' := by
 have hu31 := Try.underlying31; have hu29 := Try.underlying29; have hu3 := Try.underlying3; have HR0_1 := aM hr0_1; have HC0_1 := aM hc0_1; clear hr0_1 hc0_1; have HR1 := aM hr1; have HC1 := aM hc1; clear hr1 hc1; have HB := aM (Below.refl w.heap.size w)
 unfold impl_Puzzle_solutions.f at h; have H := h; clear h
 replace H := bS H; obtain ⟨t320, A3, H⟩ := H; replace H := bS H; obtain ⟨t323, A4, H⟩ := H; obtain rfl := Option.some.inj H
 go_enter Try.func73, Try.ntmps73
 go_wp2_with (first | ((with_reducible refine gate_dst (N := 2) rfl ?_); refine bV 2 (cs := #[.int .i64 a0_0, .slice A0_1 l0_1.length c0_1]) (t := 31) rfl rfl (by first | (go_simp; done) | (go_simp; rfl)) ?_; intro gb318 hg w5 hbox hb; have BK318 := hbox; have GW318 := gZ HB hg; have GE318 := gZ HB hg; replace HB := tB HB hb; clear hb hbox hg) | ((with_reducible refine gate_dst (N := 3) rfl ?_); refine bV 3 (cs := #[.slice A1 l1.length c1]) (t := 29) rfl rfl (by first | (go_simp; done) | (go_simp; rfl)) ?_; intro gb319 hg w6 hbox hb; have BK319 := hbox; have GW319 := gZ HB hg; have GE319 := gZ HB hg; have NB318_319 := nG BK318 hg; have NB319_318 := nH BK318 hg; replace BK318 := bB BK318 hb; replace HB := tB HB hb; clear hb hbox hg; have hnb7 := NB318_319.out; have hnc7 := NB319_318.out; have hcz8_0 := vZ0 BK318; have hcz8_1 := vZ1 BK318; have hfz8_0 := kF BK318.out 0; have hfz8_1 := kF BK318.out 1) | ((with_reducible refine gC (f := 99) rfl ?_); refine goesL_ (some 11) rfl rfl Try.func99 kR rfl #[.int .i64 (wrap64 (a0_0 + 1)), .int .i64 (wrap64 (a0_0 + 1))] rfl sQ ?_; (with_reducible refine (impl_board.calls k (wrap64 (a0_0 + 1)) (wrap64 (a0_0 + 1)) t320 _ A3.out).mono ?_); rintro e w9 ⟨v321, rfl, ho0, hb⟩; refine ⟨_, rfl, ?_⟩; have HO322 := aM (Kd.R_lower ho0 (pZ bE)); replace BK318 := bB BK318 hb; replace BK319 := bB BK319 hb; replace HB := tB HB hb; (try clear hb); (try clear hb2); (try clear hk); (try clear hi); (try clear ho0); obtain ⟨Ao10, co10, eo10⟩ := Kd.R_slice HO322.out; subst eo10) | ((with_reducible refine gC (f := 98) rfl ?_); refine goesL_ (some 13) rfl rfl Try.func98 kR rfl #[.slice Ao10 t320.length co10, .func (.func 100) #[] #[.pointer (some ⟨gb319, 0, none⟩)]] rfl sQ ?_; (with_reducible refine (slices_DeleteFunc_impl_Peg_at_impl_Puzzle_solutions_1.calls k (fun k_ => some k_ = (.slice Ao10 t320.length co10 : Value).ownBlock) (.slice Ao10 t320.length co10) t320 gb319 A1 c1 l1 t323 w _ ?side1 ?side2 ?side3 ?side4 ?side5 A4.out).mono ?_); (case side1 => repeat (first | (with_reducible first | exact HB.out | apply pA | apply pN | apply pD | refine pS ?_ GE318.out | refine pS ?_ GE319.out) | exact HB.out)); (case side2 => exact Kd.R_tight rfl HO322.out); (case side3 => exact Kd.C_kept_came kd_impl_Clue_heap HR1.out bE (fun k_ hs_ => (fun e_ => Kd.R_base HO322.out k_ e_.symm) hs_)); (case side4 => exact HC1.out); (case side5 => exact (gQ BK319)); rintro e w11 ⟨v324, rfl, ho0, hb, hkp⟩; refine ⟨_, rfl, ?_⟩; have n0_ := aM (blk_kept (gQ BK318) hkp (fun hs_ => (fun e_ => (Kd.R_ne HO322.out BK318.out (by decide)) e_) hs_)); have n1_ := aM (blk_kept (gQ BK319) hkp (fun hs_ => (fun e_ => (Kd.R_ne HO322.out BK319.out (by decide)) e_) hs_)); have n2_ := aM (Kd.R_mono (ok' := fun k_ => True) ho0 (fun k_ hk_ => trivial)); have n3_ := aM (hb); clear BK318; clear BK319; clear HB; clear HO322; have BK318 := n0_; have BK319 := n1_; have HO325 := n2_; have HB := n3_; clear n0_ n1_ n2_ n3_; (try clear hb); (try clear hkp); (try clear ho0)))
 go_ret
 exact ⟨_, by first | rfl | (simp [errW_none, errW_some] <;> rfl) | (simp [*, errW_none, errW_some] <;> rfl), by (with_reducible repeat (first | apply rA | apply rN | apply rD)); exact HO325.out, bE⟩

def impl_Solutions.f (k : Nat) (a0_0 : Int) (l0_1 : List (S_impl_Clue)) : Option ((List (S_impl_Peg)) × Bool) := (impl_IsPuzzle.f k a0_0 l0_1).bind fun t327 => (if t327 = true then ((impl_Puzzle_solutions.f k a0_0 l0_1 l0_1).bind fun t328 => ((slices_Clone_impl_Peg.f t328).bind fun t331 => (some (t331, true)))) else (some (([] : List (S_impl_Peg)), false)))
theorem impl_Solutions.mono : ∀ a0 a1 k, LeO (impl_Solutions.f k a0 a1) (impl_Solutions.f (k + 1) a0 a1) := by
 intro a0 a1 k
 unfold impl_Solutions.f
 repeat' first | (with_reducible exact impl_IsPuzzle.mono _ _ _) | (with_reducible exact impl_Puzzle_solutions.mono _ _ _ _) | (with_reducible exact LeO.refl _) | (with_reducible exact LeO.none _) | (with_reducible refine LeO.ite ?_ ?_) | (with_reducible refine LeO.bind ?_ (fun _ => ?_)) | exact impl_IsPuzzle.mono _ _ _ | exact impl_Puzzle_solutions.mono _ _ _ _ | exact LeO.none _ | refine LeO.ite ?_ ?_ | refine LeO.bind ?_ (fun _ => ?_)
set_option maxHeartbeats 8000000 in
set_option maxRecDepth 100000 in
theorem impl_Solutions.calls (k : Nat) (a0_0 : Int) (A0_1 : Option Addr) (c0_1 : Nat) (l0_1 : List (S_impl_Clue)) (r1 : List (S_impl_Peg)) (r2 : Bool) (w : World) (hr0_1 : Kd.C kd_impl_Clue w A0_1 l0_1.length l0_1) (hc0_1 : l0_1.length ≤ c0_1) (h : impl_Solutions.f k a0_0 l0_1 = some (r1, r2)) :
  Calls Try.prog 25 #[.agg #[.int .i64 a0_0, .slice A0_1 l0_1.length c0_1]] w fun e w' => ∃ v0_ : Value, e = .returned (.tuple #[v0_, .bool r2]) ∧ Kd.R kd_impl_Peg 41 w' w.heap.size (fun _ => True) v0_ r1 ∧ Below w.heap.size w w' := by
 have hu31 := Try.underlying31; have HR0_1 := aM hr0_1; have HC0_1 := aM hc0_1; clear hr0_1 hc0_1; have HB := aM (Below.refl w.heap.size w)
 unfold impl_Solutions.f at h; have H := h; clear h
 replace H := bS H; obtain ⟨t327, A2, H⟩ := H
 by_cases c3 : t327 = true
 ·subst c3; replace H := iT H; replace H := bS H; obtain ⟨t328, A4, H⟩ := H; replace H := bS H; obtain ⟨t331, A5, H⟩ := H
  simp only [Option.some.injEq, Prod.mk.injEq] at H
  obtain ⟨rfl, rfl⟩ := H
  go_enter Try.func25, Try.ntmps25
  go_wp2_with (first | ((with_reducible refine gate_dst (N := 1) rfl ?_); refine bV 1 (cs := #[.int .i64 a0_0, .slice A0_1 l0_1.length c0_1]) (t := 31) rfl rfl (by first | (go_simp; done) | (go_simp; rfl)) ?_; intro gb326 hg w6 hbox hb; have BK326 := hbox; have GW326 := gZ HB hg; have GE326 := gZ HB hg; replace HB := tB HB hb; clear hb hbox hg; have hcz7_0 := vZ0 BK326; have hcz7_1 := vZ1 BK326; have hfz7_0 := kF BK326.out 0; have hfz7_1 := kF BK326.out 1) | ((with_reducible refine gC (f := 19) rfl ?_); refine goesL_ (some 5) rfl rfl Try.func19 kR rfl #[.agg #[.int .i64 a0_0, .slice A0_1 l0_1.length c0_1]] rfl sQ ?_; (with_reducible refine (impl_IsPuzzle.calls k a0_0 _ _ l0_1 true _ ?side1 ?side2 A2.out).mono ?_); (case side1 => repeat (first | exact (Kd.C_below HR0_1.out HB.out) | (with_reducible refine cA ?_ _) | (with_reducible refine cN ?_ _) | (with_reducible refine cD ?_))); (case side2 => exact HC0_1.out); rintro e w8 ⟨rfl, hb⟩; refine ⟨_, rfl, ?_⟩; replace BK326 := bB BK326 hb; replace HB := tB HB hb; (try clear hb); (try clear hb2); (try clear hk); (try clear hi); have hcz9_0 := vZ0 BK326; have hcz9_1 := vZ1 BK326; have hfz9_0 := kF BK326.out 0; have hfz9_1 := kF BK326.out 1) | ((with_reducible refine gC (f := 73) rfl ?_); refine goesL_ (some 10) rfl rfl Try.func73 kR rfl #[.agg #[.int .i64 a0_0, .slice A0_1 l0_1.length c0_1], .slice A0_1 l0_1.length c0_1] rfl sQ ?_; (with_reducible refine (impl_Puzzle_solutions.calls k a0_0 _ _ l0_1 _ _ l0_1 t328 _ ?side1 ?side2 ?side3 ?side4 A4.out).mono ?_); (case side1 => repeat (first | exact (Kd.C_below HR0_1.out HB.out) | (with_reducible refine cA ?_ _) | (with_reducible refine cN ?_ _) | (with_reducible refine cD ?_))); (case side2 => exact HC0_1.out); (case side3 => repeat (first | exact (Kd.C_below HR0_1.out HB.out) | (with_reducible refine cA ?_ _) | (with_reducible refine cN ?_ _) | (with_reducible refine cD ?_))); (case side4 => exact HC0_1.out); rintro e w10 ⟨v329, rfl, ho0, hb⟩; refine ⟨_, rfl, ?_⟩; have HO330 := aM (Kd.R_lower ho0 (pZ bE)); replace BK326 := bB BK326 hb; replace HB := tB HB hb; (try clear hb); (try clear hb2); (try clear hk); (try clear hi); (try clear ho0); obtain ⟨Ao11, co11, eo11⟩ := Kd.R_slice HO330.out; subst eo11) | ((with_reducible refine gC (f := 72) rfl ?_); refine goesL_ (some 11) rfl rfl Try.func72 kR rfl #[.slice Ao11 t328.length co11] rfl sQ ?_; (with_reducible refine (slices_Clone_impl_Peg.calls _ _ t328 t331 _ ?side1 ?side2 A5.out).mono ?_); (case side1 => repeat (first | exact (rR HO330.out).2.2 | (with_reducible refine cA ?_ _) | (with_reducible refine cN ?_ _) | (with_reducible refine cD ?_))); (case side2 => exact (rR HO330.out).2.1); rintro e w12 ⟨v332, rfl, ho0, hb⟩; refine ⟨_, rfl, ?_⟩; have HO333 := aM (Kd.R_lower (Kd.R_new' ho0 (Kd.R_lt (by (with_reducible repeat (first | apply rA | apply rN | apply rD)); exact HO330.out))) (pZ bE)); replace HO330 := aM (Kd.R_elder' (by (with_reducible repeat (first | apply rA | apply rN | apply rD)); exact HO330.out) (Kd.R_base ho0) hb); replace BK326 := bB BK326 hb; replace HB := tB HB hb; (try clear hb); (try clear hb2); (try clear hk); (try clear hi); (try clear ho0)))
  go_ret2
  exact ⟨_, by first | rfl | (simp [errW_none, errW_some] <;> rfl) | (simp [*, errW_none, errW_some] <;> rfl), by (with_reducible repeat (first | apply rA | apply rN | apply rD)); exact Kd.R_mono HO333.out (fun _ hk => trivial), bE⟩
 ·replace c3 := Bool.eq_false_iff.mpr c3; subst c3; replace H := iF H
  simp only [Option.some.injEq, Prod.mk.injEq] at H
  obtain ⟨rfl, rfl⟩ := H
  go_enter Try.func25, Try.ntmps25
  go_wp2_with (first | ((with_reducible refine gate_dst (N := 1) rfl ?_); refine bV 1 (cs := #[.int .i64 a0_0, .slice A0_1 l0_1.length c0_1]) (t := 31) rfl rfl (by first | (go_simp; done) | (go_simp; rfl)) ?_; intro gb326 hg w13 hbox hb; have BK326 := hbox; have GW326 := gZ HB hg; have GE326 := gZ HB hg; replace HB := tB HB hb; clear hb hbox hg; have hcz14_0 := vZ0 BK326; have hcz14_1 := vZ1 BK326; have hfz14_0 := kF BK326.out 0; have hfz14_1 := kF BK326.out 1) | ((with_reducible refine gC (f := 19) rfl ?_); refine goesL_ (some 5) rfl rfl Try.func19 kR rfl #[.agg #[.int .i64 a0_0, .slice A0_1 l0_1.length c0_1]] rfl sQ ?_; (with_reducible refine (impl_IsPuzzle.calls k a0_0 _ _ l0_1 false _ ?side1 ?side2 A2.out).mono ?_); (case side1 => repeat (first | exact (Kd.C_below HR0_1.out HB.out) | (with_reducible refine cA ?_ _) | (with_reducible refine cN ?_ _) | (with_reducible refine cD ?_))); (case side2 => exact HC0_1.out); rintro e w15 ⟨rfl, hb⟩; refine ⟨_, rfl, ?_⟩; replace BK326 := bB BK326 hb; replace HB := tB HB hb; (try clear hb); (try clear hb2); (try clear hk); (try clear hi)))
  go_ret2
  exact ⟨_, by first | rfl | (simp [errW_none, errW_some] <;> rfl) | (simp [*, errW_none, errW_some] <;> rfl), by first | exact Kd.R_nil _ _ _ _ _ | exact Kd.N_nil _ _ _ _ _ | exact Kd.V_nil _ _ _ _ _ | exact Kd.Q_nil _ _ _ _ _ | exact Kd.S_nil _ _ _ _ _, bE⟩

-- NOT PRINTED: function 121 (slices_insertionSortCmpFunc_impl_Peg)

-- NOT PRINTED: function 132 (slices_siftDownCmpFunc_impl_Peg)

-- NOT PRINTED: function 122 (slices_heapSortCmpFunc_impl_Peg)

-- EXT math/bits.Len64 rounds=0 making=0
def bits_Len64.f (a0 : Int) : Option Int := if 0 ≤ a0 then (if a0 ≤ 18446744073709551615 then some (Lib.bitLen a0.toNat) else none) else none
theorem bits_Len64.calls (a0 : Int) (r : Int) (w : World) (h : bits_Len64.f a0 = some r) :
  Calls Try.prog 130 #[.int .u64 a0] w fun e w' => e = .returned (.int .i64 r) ∧ Drawn0 w w' := by
 unfold bits_Len64.f at h
 by_cases c1 : 0 ≤ a0
 ·rw [if_pos c1] at h
  by_cases c2 : a0 ≤ 18446744073709551615
  ·rw [if_pos c2] at h; obtain rfl := Option.some.inj h
   refine (Try.bits_Len64 a0 w c1 c2).mono ?_
   rintro e w' ⟨rfl, rfl⟩
   exact ⟨rfl, 0, rfl⟩
  ·rw [if_neg c2] at h
   exact absurd h (by simp)
 ·rw [if_neg c1] at h
  exact absurd h (by simp)

def bits_Len.f (a0 : Int) : Option (Int) := (bits_Len64.f a0).bind fun t334 => (some t334)
set_option maxHeartbeats 8000000 in
set_option maxRecDepth 100000 in
theorem bits_Len.calls (a0 : Int) (r : Int) (w : World) (h : bits_Len.f a0 = some r) :
  Calls Try.prog 116 #[.int .u64 a0] w fun e w' => e = .returned (.int .i64 r) ∧ Drawn0 w w' := by
 unfold bits_Len.f at h; have H := h; clear h
 replace H := bS H; obtain ⟨t334, A2, H⟩ := H; obtain rfl := Option.some.inj H
 go_enter Try.func116, Try.ntmps116
 go_wp2_with (first | ((with_reducible refine gC (f := 130) rfl ?_); refine goesL_ (some 7) rfl rfl Try.func130 kR rfl #[.int .u64 a0] rfl sQ ?_; (with_reducible refine (bits_Len64.calls a0 t334 _ A2.out).mono ?_); rintro e w' ⟨rfl, ⟨nd, rfl⟩⟩; refine ⟨_, rfl, ?_⟩))
 go_ret
 exact ⟨eQ, dQ⟩

-- NOT PRINTED: function 134 (slices_xorshift_Next)

-- NOT PRINTED: function 123 (slices_breakPatternsCmpFunc_impl_Peg)

-- NOT PRINTED: function 137 (slices_order2CmpFunc_impl_Peg)

-- NOT PRINTED: function 136 (slices_medianCmpFunc_impl_Peg)

-- NOT PRINTED: function 135 (slices_medianAdjacentCmpFunc_impl_Peg)

-- NOT PRINTED: function 124 (slices_choosePivotCmpFunc_impl_Peg)

-- NOT PRINTED: function 125 (slices_reverseRangeCmpFunc_impl_Peg)

-- NOT PRINTED: function 126 (slices_partialInsertionSortCmpFunc_impl_Peg)

-- NOT PRINTED: function 127 (slices_partitionEqualCmpFunc_impl_Peg)

-- NOT PRINTED: function 128 (slices_partitionCmpFunc_impl_Peg)

-- NOT PRINTED: function 115 (slices_pdqsortCmpFunc_impl_Peg)

-- NOT PRINTED: function 107 (slices_SortFunc_impl_Peg)

def cmp_Or_int.l0 : Nat → Int → List Int → Int → Int → Option (Int)
 | 0, _, _, _, _ => none
 | k + 1, x3, x6, x7, x8 => if x8 < x7 then (if 0 ≤ x8 then (if x8 < (x6.length : Int) then (if (rd x6 x8) = x3 then (cmp_Or_int.l0 k x3 x6 x7 (wrap64 (x8 + 1))) else (some (rd x6 x8))) else (none)) else (none)) else (some x3)
def cmp_Or_int.f (k : Nat) (l0 : List Int) : Option (Int) := cmp_Or_int.l0 k 0 l0 (l0.length : Int) 0
theorem cmp_Or_int.mono_l : ∀ k, (∀ y0 y1 y2 y3, LeO (cmp_Or_int.l0 k y0 y1 y2 y3) (cmp_Or_int.l0 (k + 1) y0 y1 y2 y3))
 | 0 => fun _ _ _ _ r h => by simp [cmp_Or_int.l0] at h
 | k + 1 => by
  have ih0 := cmp_Or_int.mono_l k
  ·intro y0 y1 y2 y3
   unfold cmp_Or_int.l0
   repeat' first
   | (with_reducible exact ih0 _ _ _ _)
   | (with_reducible exact LeO.refl _)
   | (with_reducible exact LeO.none _)
   | (with_reducible refine LeO.ite ?_ ?_)
   | (with_reducible refine LeO.bind ?_ (fun _ => ?_))
   | exact ih0 _ _ _ _
   | exact LeO.none _
   | refine LeO.ite ?_ ?_
   | refine LeO.bind ?_ (fun _ => ?_)
theorem cmp_Or_int.mono : ∀ a0 k, LeO (cmp_Or_int.f k a0) (cmp_Or_int.f (k + 1) a0) := by
 intro a0 k
 have ih0 := cmp_Or_int.mono_l k
 unfold cmp_Or_int.f
 repeat' first | (with_reducible exact ih0 _ _ _ _) | (with_reducible exact LeO.refl _) | (with_reducible exact LeO.none _) | (with_reducible refine LeO.ite ?_ ?_) | (with_reducible refine LeO.bind ?_ (fun _ => ?_)) | exact ih0 _ _ _ _ | exact LeO.none _ | refine LeO.ite ?_ ?_ | refine LeO.bind ?_ (fun _ => ?_)
set_option maxHeartbeats 8000000 in
set_option maxRecDepth 100000 in
theorem cmp_Or_int.calls (k : Nat) (A0 : Option Addr) (c0 : Nat) (l0 : List Int) (r : Int) (w : World) (hr0 : Kd.C (Kd.int .i64) w A0 l0.length l0) (hc0 : l0.length ≤ c0) (h : cmp_Or_int.f k l0 = some r) :
  Calls Try.prog 117 #[.slice A0 l0.length c0] w fun e w' => e = .returned (.int .i64 r) ∧ Drawn0 w w' := by
 have HR0 := aM hr0; have HC0 := aM hc0; clear hr0 hc0
 unfold cmp_Or_int.f at h; have H := h; clear h
 have H' := aM H; clear H
 go_enter Try.func117, Try.ntmps117
 go_wp2
 go_loopg [8] k (fun kq v8 w' => ∃ (x8_1 : Int), v8 = .int .i64 x8_1 ∧ Aside0 (cmp_Or_int.l0 kq 0 l0 (l0.length : Int) x8_1 = some r) ∧ Aside0 (kq ≤ k) ∧ Drawn0 w w')
 case atStart => exact ⟨(0), eQ, H', ⟨Nat.le_refl _⟩, dQ⟩
 case round =>
  clear H'; obtain ⟨x8_1, rfl, HA, HK1, ⟨m1, rfl⟩⟩ := hrel
  cases gk with
  | zero => exact absurd HA.out (by simp [cmp_Or_int.l0])
  | succ k1 =>
   have H := HA.out; clear HA
   simp only [cmp_Or_int.l0] at H
   by_cases c2 : x8_1 < (l0.length : Int)
   ·rw [if_pos c2] at H; have c2b0 := dE c2; clear c2; replace H := iD H; obtain ⟨c3b0, H⟩ := H; replace H := iD H; obtain ⟨c4b0, H⟩ := H
    by_cases c5 : (rd l0 x8_1) = 0
    ·rw [if_pos c5] at H; have c5b0 : ((rd l0 x8_1) == 0) = true := beq_iff_eq.mpr c5; have c5b1 : ((rd l0 x8_1) != 0) = false := bne_eq_false_iff_eq.mpr c5; clear c5; have H' := aM H; clear H; have p335 : 0 ≤ (x8_1 : Int) := dT aQ; have q335 : x8_1 < (l0.length : Int) := dT aQ; obtain ⟨ad335, e335, hx335_0⟩ := Kd.at_int HR0.out x8_1 p335 q335
     cases e335
     replace p335 := eq_true p335; replace q335 := eq_true q335; go_wp2
     go_roundg k1
     case measure => have := HK1.out; omega
     case rel => exact ⟨(wrap64 (x8_1 + 1)), eQ, H', ⟨by have := HK1.out; omega⟩, dQ⟩
    ·rw [if_neg c5] at H; have c5b0 : ((rd l0 x8_1) == 0) = false := beq_eq_false_iff_ne.mpr c5; have c5b1 : ((rd l0 x8_1) != 0) = true := bne_iff_ne.mpr c5; obtain rfl := Option.some.inj H; have p335 : 0 ≤ (x8_1 : Int) := dT aQ; have q335 : x8_1 < (l0.length : Int) := dT aQ; obtain ⟨ad335, e335, hx335_0⟩ := Kd.at_int HR0.out x8_1 p335 q335
     cases e335
     replace p335 := eq_true p335; replace q335 := eq_true q335; go_wp2
     go_ret
     exact ⟨eQ, dQ⟩
   ·rw [if_neg c2] at H; have c2b0 := decide_eq_false c2; clear c2; obtain rfl := Option.some.inj H; go_wp2
    go_ret
    exact ⟨eQ, dQ⟩

def cmp_isNaN_int.f (a0 : Int) : Option (Bool) := some (a0 != a0)
set_option maxHeartbeats 8000000 in
set_option maxRecDepth 100000 in
theorem cmp_isNaN_int.calls (a0 : Int) (r : Bool) (w : World) (h : cmp_isNaN_int.f a0 = some r) :
  Calls Try.prog 131 #[.int .i64 a0] w fun e w' => e = .returned (.bool r) ∧ Drawn0 w w' := by
 unfold cmp_isNaN_int.f at h; have H := h; clear h
 obtain rfl := Option.some.inj H
 go_enter Try.func131, Try.ntmps131
 go_wp2
 go_ret
 exact ⟨eQ, dQ⟩

def cmp_Compare_int.f (a0 : Int) (a1 : Int) : Option (Int) := (cmp_isNaN_int.f a0).bind fun t336 => ((cmp_isNaN_int.f a1).bind fun t337 => (if t336 = true then (if t337 = true then (some 0) else (some (-1))) else (if t337 = true then (some 1) else (if a0 < a1 then (some (-1)) else (if a0 > a1 then (some 1) else (some 0))))))
set_option maxHeartbeats 8000000 in
set_option maxRecDepth 100000 in
theorem cmp_Compare_int.calls (a0 : Int) (a1 : Int) (r : Int) (w : World) (h : cmp_Compare_int.f a0 a1 = some r) :
  Calls Try.prog 118 #[.int .i64 a0, .int .i64 a1] w fun e w' => e = .returned (.int .i64 r) ∧ Drawn0 w w' := by
 unfold cmp_Compare_int.f at h; have H := h; clear h
 replace H := bS H; obtain ⟨t336, A3, H⟩ := H; replace H := bS H; obtain ⟨t337, A4, H⟩ := H
 by_cases c5 : t336 = true
 ·subst c5; replace H := iT H
  by_cases c6 : t337 = true
  ·subst c6; replace H := iT H; obtain rfl := Option.some.inj H
   go_enter Try.func118, Try.ntmps118
   go_wp2_with (first | ((with_reducible refine gC (f := 131) rfl ?_); refine goesL_ (some 8) rfl rfl Try.func131 kR rfl #[.int .i64 a0] rfl sQ ?_; (with_reducible refine (cmp_isNaN_int.calls a0 true _ A3.out).mono ?_); rintro e w' ⟨rfl, ⟨nd, rfl⟩⟩; refine ⟨_, rfl, ?_⟩) | ((with_reducible refine gC (f := 131) rfl ?_); refine goesL_ (some 10) rfl rfl Try.func131 kR rfl #[.int .i64 a1] rfl sQ ?_; (with_reducible refine (cmp_isNaN_int.calls a1 true _ A4.out).mono ?_); rintro e w' ⟨rfl, ⟨nd, rfl⟩⟩; refine ⟨_, rfl, ?_⟩))
   go_ret
   exact ⟨eQ, dQ⟩
  ·replace c6 := Bool.eq_false_iff.mpr c6; subst c6; replace H := iF H; obtain rfl := Option.some.inj H
   go_enter Try.func118, Try.ntmps118
   go_wp2_with (first | ((with_reducible refine gC (f := 131) rfl ?_); refine goesL_ (some 8) rfl rfl Try.func131 kR rfl #[.int .i64 a0] rfl sQ ?_; (with_reducible refine (cmp_isNaN_int.calls a0 true _ A3.out).mono ?_); rintro e w' ⟨rfl, ⟨nd, rfl⟩⟩; refine ⟨_, rfl, ?_⟩) | ((with_reducible refine gC (f := 131) rfl ?_); refine goesL_ (some 10) rfl rfl Try.func131 kR rfl #[.int .i64 a1] rfl sQ ?_; (with_reducible refine (cmp_isNaN_int.calls a1 false _ A4.out).mono ?_); rintro e w' ⟨rfl, ⟨nd, rfl⟩⟩; refine ⟨_, rfl, ?_⟩))
   go_ret
   exact ⟨eQ, dQ⟩
 ·replace c5 := Bool.eq_false_iff.mpr c5; subst c5; replace H := iF H
  by_cases c7 : t337 = true
  ·subst c7; replace H := iT H; obtain rfl := Option.some.inj H
   go_enter Try.func118, Try.ntmps118
   go_wp2_with (first | ((with_reducible refine gC (f := 131) rfl ?_); refine goesL_ (some 8) rfl rfl Try.func131 kR rfl #[.int .i64 a0] rfl sQ ?_; (with_reducible refine (cmp_isNaN_int.calls a0 false _ A3.out).mono ?_); rintro e w' ⟨rfl, ⟨nd, rfl⟩⟩; refine ⟨_, rfl, ?_⟩) | ((with_reducible refine gC (f := 131) rfl ?_); refine goesL_ (some 10) rfl rfl Try.func131 kR rfl #[.int .i64 a1] rfl sQ ?_; (with_reducible refine (cmp_isNaN_int.calls a1 true _ A4.out).mono ?_); rintro e w' ⟨rfl, ⟨nd, rfl⟩⟩; refine ⟨_, rfl, ?_⟩))
   go_ret
   exact ⟨eQ, dQ⟩
  ·replace c7 := Bool.eq_false_iff.mpr c7; subst c7; replace H := iF H
   by_cases c8 : a0 < a1
   ·rw [if_pos c8] at H; have c8b0 := dE c8; clear c8; obtain rfl := Option.some.inj H
    go_enter Try.func118, Try.ntmps118
    go_wp2_with (first | ((with_reducible refine gC (f := 131) rfl ?_); refine goesL_ (some 8) rfl rfl Try.func131 kR rfl #[.int .i64 a0] rfl sQ ?_; (with_reducible refine (cmp_isNaN_int.calls a0 false _ A3.out).mono ?_); rintro e w' ⟨rfl, ⟨nd, rfl⟩⟩; refine ⟨_, rfl, ?_⟩) | ((with_reducible refine gC (f := 131) rfl ?_); refine goesL_ (some 10) rfl rfl Try.func131 kR rfl #[.int .i64 a1] rfl sQ ?_; (with_reducible refine (cmp_isNaN_int.calls a1 false _ A4.out).mono ?_); rintro e w' ⟨rfl, ⟨nd, rfl⟩⟩; refine ⟨_, rfl, ?_⟩))
    go_ret
    exact ⟨eQ, dQ⟩
   ·rw [if_neg c8] at H; have c8b0 := decide_eq_false c8; clear c8
    by_cases c9 : a0 > a1
    ·rw [if_pos c9] at H; have c9b0 := dE c9; clear c9; obtain rfl := Option.some.inj H
     go_enter Try.func118, Try.ntmps118
     go_wp2_with (first | ((with_reducible refine gC (f := 131) rfl ?_); refine goesL_ (some 8) rfl rfl Try.func131 kR rfl #[.int .i64 a0] rfl sQ ?_; (with_reducible refine (cmp_isNaN_int.calls a0 false _ A3.out).mono ?_); rintro e w' ⟨rfl, ⟨nd, rfl⟩⟩; refine ⟨_, rfl, ?_⟩) | ((with_reducible refine gC (f := 131) rfl ?_); refine goesL_ (some 10) rfl rfl Try.func131 kR rfl #[.int .i64 a1] rfl sQ ?_; (with_reducible refine (cmp_isNaN_int.calls a1 false _ A4.out).mono ?_); rintro e w' ⟨rfl, ⟨nd, rfl⟩⟩; refine ⟨_, rfl, ?_⟩))
     go_ret
     exact ⟨eQ, dQ⟩
    ·rw [if_neg c9] at H; have c9b0 := decide_eq_false c9; clear c9; obtain rfl := Option.some.inj H
     go_enter Try.func118, Try.ntmps118
     go_wp2_with (first | ((with_reducible refine gC (f := 131) rfl ?_); refine goesL_ (some 8) rfl rfl Try.func131 kR rfl #[.int .i64 a0] rfl sQ ?_; (with_reducible refine (cmp_isNaN_int.calls a0 false _ A3.out).mono ?_); rintro e w' ⟨rfl, ⟨nd, rfl⟩⟩; refine ⟨_, rfl, ?_⟩) | ((with_reducible refine gC (f := 131) rfl ?_); refine goesL_ (some 10) rfl rfl Try.func131 kR rfl #[.int .i64 a1] rfl sQ ?_; (with_reducible refine (cmp_isNaN_int.calls a1 false _ A4.out).mono ?_); rintro e w' ⟨rfl, ⟨nd, rfl⟩⟩; refine ⟨_, rfl, ?_⟩))
     go_ret
     exact ⟨eQ, dQ⟩

end Go.Proofs.Ytoeclfihlhmnpaa.X
