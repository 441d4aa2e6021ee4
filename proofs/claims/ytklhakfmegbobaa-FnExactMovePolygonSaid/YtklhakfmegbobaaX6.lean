-- thin
-- short
-- compact
import Derived.Test.YtklhakfmegbobaaXA
import Derived.Test.YtklhakfmegbobaaX0
import Derived.Test.YtklhakfmegbobaaX3
import Derived.Test.YtklhakfmegbobaaX5
namespace Go.Proofs.Ytklhakfmegbobaa.X
open Go.RowKit Go.Proofs.Ytklhakfmegbobaa.XW Go.Proofs.YtklhakfmegbobaaW.PrintWords Go.Proofs.YtklhakfmegbobaaW.PrintLast Go.Proofs.YtklhakfmegbobaaW.PrintMore
attribute [local go_sem] max2_int min2_int max_two min_two max_three min_three max_four min_four   -- for this text's walks alone
set_option linter.unusedVariables false
set_option linter.unusedSimpArgs false

def spec_pgMap.l0 : Nat → Int → Int → Int → Int → Int → Int → List (S_impl_Peg) → List (S_impl_Peg) → Int → Int → Option ((List (S_impl_Peg)) × Bool)
 | 0, _, _, _, _, _, _, _, _, _, _ => none
 | k + 1, x1, x2, x3, x4, x5, x6, x16, x20, x21, x22 => if x22 < x21 then (if 0 ≤ x22 then (if x22 < (x20.length : Int) then ((spec_pgIs.f (wrap64 ((wrap64 ((wrap64 (x1 * ((rd_impl_Peg x20 x22).f0))) + (wrap64 (x2 * ((rd_impl_Peg x20 x22).f1))))) + x5)) (wrap64 ((wrap64 ((wrap64 (x3 * ((rd_impl_Peg x20 x22).f0))) + (wrap64 (x4 * ((rd_impl_Peg x20 x22).f1))))) + x6))).bind fun t168 => (if t168 = true then (if x16.length < 8796093022208 then (spec_pgMap.l0 k x1 x2 x3 x4 x5 x6 (x16 ++ [(⟨wrap64 ((wrap64 ((wrap64 (x1 * ((rd_impl_Peg x20 x22).f0))) + (wrap64 (x2 * ((rd_impl_Peg x20 x22).f1))))) + x5), wrap64 ((wrap64 ((wrap64 (x3 * ((rd_impl_Peg x20 x22).f0))) + (wrap64 (x4 * ((rd_impl_Peg x20 x22).f1))))) + x6)⟩ : S_impl_Peg)]) x20 x21 (wrap64 (x22 + 1))) else (none)) else (some (([] : List (S_impl_Peg)), false)))) else (none)) else (none)) else (some (x16, true))
def spec_pgMap.f (k : Nat) (l0 : List (S_impl_Peg)) (a1 : Int) (a2 : Int) (a3 : Int) (a4 : Int) (a5 : Int) (a6 : Int) : Option ((List (S_impl_Peg)) × Bool) := spec_pgMap.l0 k a1 a2 a3 a4 a5 a6 ([] : List (S_impl_Peg)) l0 (l0.length : Int) 0
theorem spec_pgMap.mono_l : ∀ k, (∀ y0 y1 y2 y3 y4 y5 y6 y7 y8 y9, LeO (spec_pgMap.l0 k y0 y1 y2 y3 y4 y5 y6 y7 y8 y9) (spec_pgMap.l0 (k + 1) y0 y1 y2 y3 y4 y5 y6 y7 y8 y9))
 | 0 => fun _ _ _ _ _ _ _ _ _ _ r h => by simp [spec_pgMap.l0] at h
 | k + 1 => by
  have ih0 := spec_pgMap.mono_l k
  ·intro y0 y1 y2 y3 y4 y5 y6 y7 y8 y9
   unfold spec_pgMap.l0
   repeat' first
   | (with_reducible exact ih0 _ _ _ _ _ _ _ _ _ _)
   | (with_reducible exact LeO.refl _)
   | (with_reducible exact LeO.none _)
   | (with_reducible refine LeO.ite ?_ ?_)
   | (with_reducible refine LeO.bind ?_ (fun _ => ?_))
   | exact ih0 _ _ _ _ _ _ _ _ _ _
   | exact LeO.none _
   | refine LeO.ite ?_ ?_
   | refine LeO.bind ?_ (fun _ => ?_)
theorem spec_pgMap.mono : ∀ a0 a1 a2 a3 a4 a5 a6 k, LeO (spec_pgMap.f k a0 a1 a2 a3 a4 a5 a6) (spec_pgMap.f (k + 1) a0 a1 a2 a3 a4 a5 a6) := by
 intro a0 a1 a2 a3 a4 a5 a6 k
 have ih0 := spec_pgMap.mono_l k
 unfold spec_pgMap.f
 repeat' first | (with_reducible exact ih0 _ _ _ _ _ _ _ _ _ _) | (with_reducible exact LeO.refl _) | (with_reducible exact LeO.none _) | (with_reducible refine LeO.ite ?_ ?_) | (with_reducible refine LeO.bind ?_ (fun _ => ?_)) | exact ih0 _ _ _ _ _ _ _ _ _ _ | exact LeO.none _ | refine LeO.ite ?_ ?_ | refine LeO.bind ?_ (fun _ => ?_)
set_option maxHeartbeats 8000000 in
set_option maxRecDepth 100000 in
theorem spec_pgMap.calls (k : Nat) (A0 : Option Addr) (c0 : Nat) (l0 : List (S_impl_Peg)) (a1 : Int) (a2 : Int) (a3 : Int) (a4 : Int) (a5 : Int) (a6 : Int) (r1 : List (S_impl_Peg)) (r2 : Bool) (w : World) (hr0 : Kd.C kd_impl_Peg w A0 l0.length l0) (hc0 : l0.length ≤ c0) (h : spec_pgMap.f k l0 a1 a2 a3 a4 a5 a6 = some (r1, r2)) :
  Calls Try.prog 80 #[.slice A0 l0.length c0, .int .i64 a1, .int .i64 a2, .int .i64 a3, .int .i64 a4, .int .i64 a5, .int .i64 a6] w fun e w' => ∃ v0_ : Value, e = .returned (.tuple #[v0_, .bool r2]) ∧ Kd.R kd_impl_Peg 26 w' w.heap.size (fun _ => True) v0_ r1 ∧ Below w.heap.size w w' := by
 have hu26 := Try.underlying26; have HR0 := aM hr0; have HC0 := aM hc0; clear hr0 hc0; have HB := aM (Below.refl w.heap.size w)
 unfold spec_pgMap.f at h; have H := h; clear h
 have H' := aM H; clear H
 go_enter Try.func80, Try.ntmps80
 go_wp2
 go_loopg [16, 22] k (fun kq v16 v22 w' => ∃ (x16_1 : List (S_impl_Peg)) (x22_1 : Int), v22 = .int .i64 x22_1 ∧ Aside0 (spec_pgMap.l0 kq a1 a2 a3 a4 a5 a6 x16_1 l0 (l0.length : Int) x22_1 = some (r1, r2)) ∧ Aside0 (kq ≤ k) ∧ Aside0 (Kd.R kd_impl_Peg 26 w' w.heap.size (fun _ => True) v16 x16_1) ∧ Aside0 (Below w.heap.size w w'))
 case atStart => exact ⟨(([] : List (S_impl_Peg))), (0), eQ, H', ⟨Nat.le_refl _⟩, ⟨by first | exact Kd.R_nil _ _ _ _ _ | exact Kd.N_nil _ _ _ _ _ | exact Kd.V_nil _ _ _ _ _ | exact Kd.Q_nil _ _ _ _ _ | exact Kd.S_nil _ _ _ _ _⟩, ⟨bQ⟩⟩
 case round =>
  clear H'; obtain ⟨x16_1, x22_1, rfl, HA, HK1, HO_16, HB⟩ := hrel
  cases gk with
  | zero => exact absurd HA.out (by simp [spec_pgMap.l0])
  | succ k1 =>
   have H := HA.out; clear HA
   simp only [spec_pgMap.l0] at H
   by_cases c8 : x22_1 < (l0.length : Int)
   ·rw [if_pos c8] at H; have c8b0 := dE c8; clear c8; replace H := iD H; obtain ⟨c9b0, H⟩ := H; replace H := iD H; obtain ⟨c10b0, H⟩ := H; replace H := bS H; obtain ⟨t168, A11, H⟩ := H
    by_cases c12 : t168 = true
    ·subst c12; replace H := iT H; replace H := iN H; obtain ⟨c13, H⟩ := H; have LMc13 := aM c13; clear c13; obtain ⟨y169, hy169⟩ : ∃ y_ : List (S_impl_Peg), y_ = (x16_1 ++ [(⟨wrap64 ((wrap64 ((wrap64 (a1 * ((rd_impl_Peg l0 x22_1).f0))) + (wrap64 (a2 * ((rd_impl_Peg l0 x22_1).f1))))) + a5), wrap64 ((wrap64 ((wrap64 (a3 * ((rd_impl_Peg l0 x22_1).f0))) + (wrap64 (a4 * ((rd_impl_Peg l0 x22_1).f1))))) + a6)⟩ : S_impl_Peg)]) := ⟨_, rfl⟩; rw [← hy169] at H; have Ny169 := aM hy169; clear hy169; have H' := aM H; clear H; have p165 : 0 ≤ (x22_1 : Int) := dT aQ; have q165 : x22_1 < (l0.length : Int) := dT aQ; obtain ⟨ad165, e165, hx165_0, hx165_1⟩ := at_impl_Peg HR0.out x22_1 p165 q165
     cases e165
     replace hx165_0 := hC HB hx165_0; replace hx165_1 := hC HB hx165_1; replace p165 := eq_true p165; replace q165 := eq_true q165
     go_wp2_with (first | ((with_reducible refine gate_dst (N := 18) rfl ?_); refine bV 18 (cs := #[.int .i64 0, .int .i64 0]) (t := 26) rfl rfl (by first | (go_simp; done) | (go_simp; rfl)) ?_; intro gb166 hg w14 hbox hb; have BK166 := hbox; have GW166 := gZ HB hg; have GE166 := gZ HB hg; replace HO_16 := aM (Kd.R_below (Kd.R_elderB (by (with_reducible repeat (first | apply rA | apply rN | apply rD)); exact HO_16.out) gb166 (Nat.le_of_eq hg.symm)) hb); replace HB := tB HB hb; clear hb hbox hg; have hcz15_0 := vZ0 BK166; have hcz15_1 := vZ1 BK166; have hfz15_0 := kF BK166.out 0; have hfz15_1 := kF BK166.out 1) | ((with_reducible refine gate_dst (N := 19) rfl ?_); refine bV 19 (cs := #[.int .i64 0, .int .i64 0]) (t := 26) rfl rfl (by first | (go_simp; done) | (go_simp; rfl)) ?_; intro gb167 hg w16 hbox hb; have BK167 := hbox; have GW167 := gZ HB hg; have GE167 := gZ HB hg; have NB166_167 := aM ((by rw [hg]; exact nN (blk_lt (g := gb166) (o := .cells #[.int .i64 ((rd_impl_Peg l0 x22_1).f0), .int .i64 ((rd_impl_Peg l0 x22_1).f1)] 26 (0, 0)) (fQ BK166)) : gb166 ≠ gb167)); have NB167_166 := aM ((by rw [hg]; exact Nat.ne_of_gt (blk_lt (g := gb166) (o := .cells #[.int .i64 ((rd_impl_Peg l0 x22_1).f0), .int .i64 ((rd_impl_Peg l0 x22_1).f1)] 26 (0, 0)) (fQ BK166)) : gb167 ≠ gb166)); replace HO_16 := aM (Kd.R_below (Kd.R_elderB (by (with_reducible repeat (first | apply rA | apply rN | apply rD)); exact (Kd.R_mono (Kd.R_far (p := ⟨gb166, 1, none⟩) (Kd.R_far (p := ⟨gb166, 0, none⟩) (Kd.R_mono HO_16.out (fun k_ hk => (⟨hk, hk.2⟩ : _ ∧ k_ ≠ gb166))) (fun _ hk => hk.2) (.int .i64 ((rd_impl_Peg l0 x22_1).f0))) (fun _ hk => hk.2) (.int .i64 ((rd_impl_Peg l0 x22_1).f1))) (fun _ h_ => h_.1))) gb167 (Nat.le_of_eq hg.symm)) hb); replace BK166 := aM (blk_below (g := gb166) (o := .cells #[.int .i64 ((rd_impl_Peg l0 x22_1).f0), .int .i64 ((rd_impl_Peg l0 x22_1).f1)] 26 (0, 0)) (fQ BK166) hb); replace HB := tB HB hb; clear hb hbox hg; have hnb17 := NB167_166.out; have hnc17 := NB166_167.out; have hcz18_0 := vZ0 BK167; have hcz18_1 := vZ1 BK167; have hfz18_0 := kF BK167.out 0; have hfz18_1 := kF BK167.out 1) | ((with_reducible refine gC (f := 57) rfl ?_); refine goesL_ (some 50) rfl rfl Try.func57 kR rfl #[.agg #[.int .i64 (wrap64 ((wrap64 ((wrap64 (a1 * ((rd_impl_Peg l0 x22_1).f0))) + (wrap64 (a2 * ((rd_impl_Peg l0 x22_1).f1))))) + a5)), .int .i64 (wrap64 ((wrap64 ((wrap64 (a3 * ((rd_impl_Peg l0 x22_1).f0))) + (wrap64 (a4 * ((rd_impl_Peg l0 x22_1).f1))))) + a6))]] rfl sQ ?_; (with_reducible refine (spec_pgIs.calls (wrap64 ((wrap64 ((wrap64 (a1 * ((rd_impl_Peg l0 x22_1).f0))) + (wrap64 (a2 * ((rd_impl_Peg l0 x22_1).f1))))) + a5)) (wrap64 ((wrap64 ((wrap64 (a3 * ((rd_impl_Peg l0 x22_1).f0))) + (wrap64 (a4 * ((rd_impl_Peg l0 x22_1).f1))))) + a6)) true _ A11.out).mono ?_); rintro e w19 ⟨rfl, hb⟩; refine ⟨_, rfl, ?_⟩; replace HO_16 := aM (Kd.R_below (by (with_reducible repeat (first | apply rA | apply rN | apply rD)); exact (Kd.R_mono (Kd.R_far (p := ⟨gb167, 1, none⟩) (Kd.R_far (p := ⟨gb167, 0, none⟩) (Kd.R_mono HO_16.out (fun k_ hk => (⟨hk, hk.2⟩ : _ ∧ k_ ≠ gb167))) (fun _ hk => hk.2) (.int .i64 (wrap64 ((wrap64 ((wrap64 (a1 * ((rd_impl_Peg l0 x22_1).f0))) + (wrap64 (a2 * ((rd_impl_Peg l0 x22_1).f1))))) + a5)))) (fun _ hk => hk.2) (.int .i64 (wrap64 ((wrap64 ((wrap64 (a3 * ((rd_impl_Peg l0 x22_1).f0))) + (wrap64 (a4 * ((rd_impl_Peg l0 x22_1).f1))))) + a6)))) (fun _ h_ => h_.1))) hb); replace BK166 := aM (blk_below (g := gb166) (o := .cells #[.int .i64 ((rd_impl_Peg l0 x22_1).f0), .int .i64 ((rd_impl_Peg l0 x22_1).f1)] 26 (0, 0)) (fQ BK166) hb); replace BK167 := aM (blk_below (g := gb167) (o := .cells #[.int .i64 (wrap64 ((wrap64 ((wrap64 (a1 * ((rd_impl_Peg l0 x22_1).f0))) + (wrap64 (a2 * ((rd_impl_Peg l0 x22_1).f1))))) + a5)), .int .i64 (wrap64 ((wrap64 ((wrap64 (a3 * ((rd_impl_Peg l0 x22_1).f0))) + (wrap64 (a4 * ((rd_impl_Peg l0 x22_1).f1))))) + a6))] 26 (0, 0)) (fQ BK167) hb); replace HB := tB HB hb; (try clear hb); (try clear hb2); (try clear hk); (try clear hi); have hcz20_0 : w19.cell? ⟨gb167, 0, none⟩ = some (.int .i64 (wrap64 ((wrap64 ((wrap64 (a1 * ((rd_impl_Peg l0 x22_1).f0))) + (wrap64 (a2 * ((rd_impl_Peg l0 x22_1).f1))))) + a5))) := vZ0 BK167; have hcz20_1 : w19.cell? ⟨gb167, 1, none⟩ = some (.int .i64 (wrap64 ((wrap64 ((wrap64 (a3 * ((rd_impl_Peg l0 x22_1).f0))) + (wrap64 (a4 * ((rd_impl_Peg l0 x22_1).f1))))) + a6))) := vZ1 BK167; have hfz20_0 := kF BK167.out 0; have hfz20_1 := kF BK167.out 1) | ((with_reducible refine gate_builtin (b := .append) (xs := #[.tmp 52, .tmp 54]) rfl ?_); at_builtin; refine Kd.R_append kd_impl_Peg (w0 := w) w.heap.size rfl (.tmp 52) (.tmp 54) 29 26 (.agg #[(.int .i64 0), (.int .i64 0)]) 16 rfl Try.underlying29 info26 rfl (by decide) (by omega) u16 x16_1 (⟨wrap64 ((wrap64 ((wrap64 (a1 * ((rd_impl_Peg l0 x22_1).f0))) + (wrap64 (a2 * ((rd_impl_Peg l0 x22_1).f1))))) + a5), wrap64 ((wrap64 ((wrap64 (a3 * ((rd_impl_Peg l0 x22_1).f0))) + (wrap64 (a4 * ((rd_impl_Peg l0 x22_1).f1))))) + a6)⟩ : S_impl_Peg) [.int .i64 (wrap64 ((wrap64 ((wrap64 (a1 * ((rd_impl_Peg l0 x22_1).f0))) + (wrap64 (a2 * ((rd_impl_Peg l0 x22_1).f1))))) + a5)), .int .i64 (wrap64 ((wrap64 ((wrap64 (a3 * ((rd_impl_Peg l0 x22_1).f0))) + (wrap64 (a4 * ((rd_impl_Peg l0 x22_1).f1))))) + a6))] (fun k_ => k_ ≠ gb166 ∧ k_ ≠ gb167) (fun _ => False) rfl rfl ?aP (fun _ hk => hk.elim) ?aF ?aO ?aB ?aS ?aL ?_; (case aP => exact kd_impl_Peg_mkM _ _ _ (⟨wrap64 ((wrap64 ((wrap64 (a1 * ((rd_impl_Peg l0 x22_1).f0))) + (wrap64 (a2 * ((rd_impl_Peg l0 x22_1).f1))))) + a5), wrap64 ((wrap64 ((wrap64 (a3 * ((rd_impl_Peg l0 x22_1).f0))) + (wrap64 (a4 * ((rd_impl_Peg l0 x22_1).f1))))) + a6)⟩ : S_impl_Peg)); (case aB => exact bE); (case aF => exact (fun k_ hk => ⟨Kd.freshB (g := gb166) (o := .cells #[.int .i64 ((rd_impl_Peg l0 x22_1).f0), .int .i64 ((rd_impl_Peg l0 x22_1).f1)] 26 (0, 0)) (gQ BK166) k_ hk, Kd.freshB (g := gb167) (o := .cells #[.int .i64 (wrap64 ((wrap64 ((wrap64 (a1 * ((rd_impl_Peg l0 x22_1).f0))) + (wrap64 (a2 * ((rd_impl_Peg l0 x22_1).f1))))) + a5)), .int .i64 (wrap64 ((wrap64 ((wrap64 (a3 * ((rd_impl_Peg l0 x22_1).f0))) + (wrap64 (a4 * ((rd_impl_Peg l0 x22_1).f1))))) + a6))] 26 (0, 0)) (gQ BK167) k_ hk⟩)); (case aO => exact (by (with_reducible repeat (first | apply rA | apply rN | apply rD)); exact Kd.R_mono HO_16.out (fun _ hk => ⟨hk.1.2, hk.2⟩))); (case aS => exact (pZ bE)); (case aL => have := LMc13.out; omega); intro v170 w21 ho hb hg hat; rw [← Ny169.out] at ho; have n0_ := aM (blk_grown (g := gb166) (o := .cells #[.int .i64 ((rd_impl_Peg l0 x22_1).f0), .int .i64 ((rd_impl_Peg l0 x22_1).f1)] 26 (0, 0)) (gQ BK166) hg (Kd.R_away HO_16.out (fun _ hk => hk.1.2))); have n1_ := aM (blk_grown (g := gb167) (o := .cells #[.int .i64 (wrap64 ((wrap64 ((wrap64 (a1 * ((rd_impl_Peg l0 x22_1).f0))) + (wrap64 (a2 * ((rd_impl_Peg l0 x22_1).f1))))) + a5)), .int .i64 (wrap64 ((wrap64 ((wrap64 (a3 * ((rd_impl_Peg l0 x22_1).f0))) + (wrap64 (a4 * ((rd_impl_Peg l0 x22_1).f1))))) + a6))] 26 (0, 0)) (gQ BK167) hg (Kd.R_away HO_16.out (fun _ hk => hk.2))); have n2_ := aM (hb); have n3_ := aM (ho); clear BK166; clear BK167; clear HB; clear HO_16; have BK166 := n0_; have BK167 := n1_; have HB := n2_; have HO171 := n3_; clear n0_ n1_ n2_ n3_; clear ho hb hg hat))
     go_roundg k1
     case measure => have := HK1.out; omega
     case rel => exact ⟨(y169), (wrap64 (x22_1 + 1)), eQ, H', ⟨by have := HK1.out; omega⟩, ⟨by (with_reducible repeat (first | apply rA | apply rN | apply rD)); exact Kd.R_mono HO171.out (fun _ hk => trivial)⟩, ⟨bE⟩⟩
    ·replace c12 := Bool.eq_false_iff.mpr c12; subst c12; replace H := iF H
     simp only [Option.some.injEq, Prod.mk.injEq] at H
     obtain ⟨rfl, rfl⟩ := H; have p165 : 0 ≤ (x22_1 : Int) := dT aQ; have q165 : x22_1 < (l0.length : Int) := dT aQ; obtain ⟨ad165, e165, hx165_0, hx165_1⟩ := at_impl_Peg HR0.out x22_1 p165 q165
     cases e165
     replace hx165_0 := hC HB hx165_0; replace hx165_1 := hC HB hx165_1; replace p165 := eq_true p165; replace q165 := eq_true q165
     go_wp2_with (first | ((with_reducible refine gate_dst (N := 18) rfl ?_); refine bV 18 (cs := #[.int .i64 0, .int .i64 0]) (t := 26) rfl rfl (by first | (go_simp; done) | (go_simp; rfl)) ?_; intro gb166 hg w22 hbox hb; have BK166 := hbox; have GW166 := gZ HB hg; have GE166 := gZ HB hg; replace HO_16 := aM (Kd.R_below (Kd.R_elderB (by (with_reducible repeat (first | apply rA | apply rN | apply rD)); exact HO_16.out) gb166 (Nat.le_of_eq hg.symm)) hb); replace HB := tB HB hb; clear hb hbox hg; have hcz23_0 := vZ0 BK166; have hcz23_1 := vZ1 BK166; have hfz23_0 := kF BK166.out 0; have hfz23_1 := kF BK166.out 1) | ((with_reducible refine gate_dst (N := 19) rfl ?_); refine bV 19 (cs := #[.int .i64 0, .int .i64 0]) (t := 26) rfl rfl (by first | (go_simp; done) | (go_simp; rfl)) ?_; intro gb167 hg w24 hbox hb; have BK167 := hbox; have GW167 := gZ HB hg; have GE167 := gZ HB hg; have NB166_167 := aM ((by rw [hg]; exact nN (blk_lt (g := gb166) (o := .cells #[.int .i64 ((rd_impl_Peg l0 x22_1).f0), .int .i64 ((rd_impl_Peg l0 x22_1).f1)] 26 (0, 0)) (fQ BK166)) : gb166 ≠ gb167)); have NB167_166 := aM ((by rw [hg]; exact Nat.ne_of_gt (blk_lt (g := gb166) (o := .cells #[.int .i64 ((rd_impl_Peg l0 x22_1).f0), .int .i64 ((rd_impl_Peg l0 x22_1).f1)] 26 (0, 0)) (fQ BK166)) : gb167 ≠ gb166)); replace HO_16 := aM (Kd.R_below (Kd.R_elderB (by (with_reducible repeat (first | apply rA | apply rN | apply rD)); exact (Kd.R_mono (Kd.R_far (p := ⟨gb166, 1, none⟩) (Kd.R_far (p := ⟨gb166, 0, none⟩) (Kd.R_mono HO_16.out (fun k_ hk => (⟨hk, hk.2⟩ : _ ∧ k_ ≠ gb166))) (fun _ hk => hk.2) (.int .i64 ((rd_impl_Peg l0 x22_1).f0))) (fun _ hk => hk.2) (.int .i64 ((rd_impl_Peg l0 x22_1).f1))) (fun _ h_ => h_.1))) gb167 (Nat.le_of_eq hg.symm)) hb); replace BK166 := aM (blk_below (g := gb166) (o := .cells #[.int .i64 ((rd_impl_Peg l0 x22_1).f0), .int .i64 ((rd_impl_Peg l0 x22_1).f1)] 26 (0, 0)) (fQ BK166) hb); replace HB := tB HB hb; clear hb hbox hg; have hnb25 := NB167_166.out; have hnc25 := NB166_167.out; have hcz26_0 := vZ0 BK167; have hcz26_1 := vZ1 BK167; have hfz26_0 := kF BK167.out 0; have hfz26_1 := kF BK167.out 1) | ((with_reducible refine gC (f := 57) rfl ?_); refine goesL_ (some 50) rfl rfl Try.func57 kR rfl #[.agg #[.int .i64 (wrap64 ((wrap64 ((wrap64 (a1 * ((rd_impl_Peg l0 x22_1).f0))) + (wrap64 (a2 * ((rd_impl_Peg l0 x22_1).f1))))) + a5)), .int .i64 (wrap64 ((wrap64 ((wrap64 (a3 * ((rd_impl_Peg l0 x22_1).f0))) + (wrap64 (a4 * ((rd_impl_Peg l0 x22_1).f1))))) + a6))]] rfl sQ ?_; (with_reducible refine (spec_pgIs.calls (wrap64 ((wrap64 ((wrap64 (a1 * ((rd_impl_Peg l0 x22_1).f0))) + (wrap64 (a2 * ((rd_impl_Peg l0 x22_1).f1))))) + a5)) (wrap64 ((wrap64 ((wrap64 (a3 * ((rd_impl_Peg l0 x22_1).f0))) + (wrap64 (a4 * ((rd_impl_Peg l0 x22_1).f1))))) + a6)) false _ A11.out).mono ?_); rintro e w27 ⟨rfl, hb⟩; refine ⟨_, rfl, ?_⟩; replace HO_16 := aM (Kd.R_below (by (with_reducible repeat (first | apply rA | apply rN | apply rD)); exact (Kd.R_mono (Kd.R_far (p := ⟨gb167, 1, none⟩) (Kd.R_far (p := ⟨gb167, 0, none⟩) (Kd.R_mono HO_16.out (fun k_ hk => (⟨hk, hk.2⟩ : _ ∧ k_ ≠ gb167))) (fun _ hk => hk.2) (.int .i64 (wrap64 ((wrap64 ((wrap64 (a1 * ((rd_impl_Peg l0 x22_1).f0))) + (wrap64 (a2 * ((rd_impl_Peg l0 x22_1).f1))))) + a5)))) (fun _ hk => hk.2) (.int .i64 (wrap64 ((wrap64 ((wrap64 (a3 * ((rd_impl_Peg l0 x22_1).f0))) + (wrap64 (a4 * ((rd_impl_Peg l0 x22_1).f1))))) + a6)))) (fun _ h_ => h_.1))) hb); replace BK166 := aM (blk_below (g := gb166) (o := .cells #[.int .i64 ((rd_impl_Peg l0 x22_1).f0), .int .i64 ((rd_impl_Peg l0 x22_1).f1)] 26 (0, 0)) (fQ BK166) hb); replace BK167 := aM (blk_below (g := gb167) (o := .cells #[.int .i64 (wrap64 ((wrap64 ((wrap64 (a1 * ((rd_impl_Peg l0 x22_1).f0))) + (wrap64 (a2 * ((rd_impl_Peg l0 x22_1).f1))))) + a5)), .int .i64 (wrap64 ((wrap64 ((wrap64 (a3 * ((rd_impl_Peg l0 x22_1).f0))) + (wrap64 (a4 * ((rd_impl_Peg l0 x22_1).f1))))) + a6))] 26 (0, 0)) (fQ BK167) hb); replace HB := tB HB hb; (try clear hb); (try clear hb2); (try clear hk); (try clear hi)))
     go_ret2
     exact ⟨_, by first | rfl | (simp [errW_none, errW_some] <;> rfl) | (simp [*, errW_none, errW_some] <;> rfl), by first | exact Kd.R_nil _ _ _ _ _ | exact Kd.N_nil _ _ _ _ _ | exact Kd.V_nil _ _ _ _ _ | exact Kd.Q_nil _ _ _ _ _ | exact Kd.S_nil _ _ _ _ _, bE⟩
   ·rw [if_neg c8] at H; have c8b0 := decide_eq_false c8; clear c8
    simp only [Option.some.injEq, Prod.mk.injEq] at H
    obtain ⟨rfl, rfl⟩ := H; go_wp2
    go_ret2
    exact ⟨_, by first | rfl | (simp [errW_none, errW_some] <;> rfl) | (simp [*, errW_none, errW_some] <;> rfl), by (with_reducible repeat (first | apply rA | apply rN | apply rD)); exact HO_16.out, bQ⟩

def spec_MovePolygon.f (k : Nat) (l0 : List (S_impl_Peg)) (a1 : Int) (a2 : Int) : Option ((List (S_impl_Peg)) × Bool) := (spec_pgGood.f k l0).bind fun t172 => (if t172 = true then ((spec_l1In.f a1 (-80) 80).bind fun t173 => (if t173 = true then ((spec_l1In.f a2 (-80) 80).bind fun t174 => (if t174 = true then ((spec_pgMap.f k l0 1 0 0 1 a1 a2).bind fun bt175 => (some (bt175.1, bt175.2))) else (some (([] : List (S_impl_Peg)), false)))) else (some (([] : List (S_impl_Peg)), false)))) else (some (([] : List (S_impl_Peg)), false)))
theorem spec_MovePolygon.mono : ∀ a0 a1 a2 k, LeO (spec_MovePolygon.f k a0 a1 a2) (spec_MovePolygon.f (k + 1) a0 a1 a2) := by
 intro a0 a1 a2 k
 unfold spec_MovePolygon.f
 repeat' first | (with_reducible exact spec_pgGood.mono _ _) | (with_reducible exact spec_pgMap.mono _ _ _ _ _ _ _ _) | (with_reducible exact LeO.refl _) | (with_reducible exact LeO.none _) | (with_reducible refine LeO.ite ?_ ?_) | (with_reducible refine LeO.bind ?_ (fun _ => ?_)) | exact spec_pgGood.mono _ _ | exact spec_pgMap.mono _ _ _ _ _ _ _ _ | exact LeO.none _ | refine LeO.ite ?_ ?_ | refine LeO.bind ?_ (fun _ => ?_)
set_option maxHeartbeats 8000000 in
set_option maxRecDepth 100000 in
theorem spec_MovePolygon.calls (k : Nat) (A0 : Option Addr) (c0 : Nat) (l0 : List (S_impl_Peg)) (a1 : Int) (a2 : Int) (r1 : List (S_impl_Peg)) (r2 : Bool) (w : World) (hr0 : Kd.C kd_impl_Peg w A0 l0.length l0) (hc0 : l0.length ≤ c0) (h : spec_MovePolygon.f k l0 a1 a2 = some (r1, r2)) :
  Calls Try.prog 34 #[.slice A0 l0.length c0, .int .i64 a1, .int .i64 a2] w fun e w' => ∃ v0_ : Value, e = .returned (.tuple #[v0_, .bool r2]) ∧ Kd.R kd_impl_Peg 26 w' w.heap.size (fun _ => True) v0_ r1 ∧ Below w.heap.size w w' := by
 have HR0 := aM hr0; have HC0 := aM hc0; clear hr0 hc0; have HB := aM (Below.refl w.heap.size w)
 unfold spec_MovePolygon.f at h; have H := h; clear h
 replace H := bS H; obtain ⟨t172, A4, H⟩ := H
 by_cases c5 : t172 = true
 ·subst c5; replace H := iT H; replace H := bS H; obtain ⟨t173, A6, H⟩ := H
  by_cases c7 : t173 = true
  ·subst c7; replace H := iT H; replace H := bS H; obtain ⟨t174, A8, H⟩ := H
   by_cases c9 : t174 = true
   ·subst c9; replace H := iT H; replace H := bS H; obtain ⟨⟨t175, t176⟩, A10, H⟩ := H
    simp only [Option.some.injEq, Prod.mk.injEq] at H
    obtain ⟨rfl, rfl⟩ := H
    go_enter Try.func34, Try.ntmps34
    go_wp2_with (first | ((with_reducible refine gC (f := 63) rfl ?_); refine goesL_ (some 9) rfl rfl Try.func63 kR rfl #[.slice A0 l0.length c0] rfl sQ ?_; (with_reducible refine (spec_pgGood.calls k _ _ l0 true _ ?side1 ?side2 A4.out).mono ?_); (case side1 => repeat (first | exact HR0.out | (with_reducible refine cA ?_ _) | (with_reducible refine cN ?_ _) | (with_reducible refine cD ?_))); (case side2 => exact HC0.out); rintro e w11 ⟨rfl, hb⟩; refine ⟨_, rfl, ?_⟩; replace HB := tB HB hb; (try clear hb); (try clear hb2); (try clear hk); (try clear hi)) | (go_at_call 79; (with_reducible refine (spec_l1In.calls a1 (-80) 80 true _ A6.out).mono ?_); rintro e w' ⟨rfl, ⟨nd, rfl⟩⟩) | (go_at_call 79; (with_reducible refine (spec_l1In.calls a2 (-80) 80 true _ A8.out).mono ?_); rintro e w' ⟨rfl, ⟨nd, rfl⟩⟩) | ((with_reducible refine gC (f := 80) rfl ?_); refine goesL_ (some 24) rfl rfl Try.func80 kR rfl #[.slice A0 l0.length c0, .int .i64 1, .int .i64 0, .int .i64 0, .int .i64 1, .int .i64 a1, .int .i64 a2] rfl sQ ?_; (with_reducible refine (spec_pgMap.calls k _ _ l0 1 0 0 1 a1 a2 t175 t176 _ ?side1 ?side2 A10.out).mono ?_); (case side1 => repeat (first | exact (Kd.C_below HR0.out bQ) | (with_reducible refine cA ?_ _) | (with_reducible refine cN ?_ _) | (with_reducible refine cD ?_))); (case side2 => exact HC0.out); rintro e w12 ⟨v177, rfl, ho0, hb⟩; refine ⟨_, rfl, ?_⟩; have HO178 := aM (Kd.R_lower ho0 (pZ bQ)); replace HB := tB HB hb; (try clear hb); (try clear hb2); (try clear hk); (try clear hi); (try clear ho0)))
    go_ret2
    exact ⟨_, by first | rfl | (simp [errW_none, errW_some] <;> rfl) | (simp [*, errW_none, errW_some] <;> rfl), by (with_reducible repeat (first | apply rA | apply rN | apply rD)); exact HO178.out, bQ⟩
   ·replace c9 := Bool.eq_false_iff.mpr c9; subst c9; replace H := iF H
    simp only [Option.some.injEq, Prod.mk.injEq] at H
    obtain ⟨rfl, rfl⟩ := H
    go_enter Try.func34, Try.ntmps34
    go_wp2_with (first | ((with_reducible refine gC (f := 63) rfl ?_); refine goesL_ (some 9) rfl rfl Try.func63 kR rfl #[.slice A0 l0.length c0] rfl sQ ?_; (with_reducible refine (spec_pgGood.calls k _ _ l0 true _ ?side1 ?side2 A4.out).mono ?_); (case side1 => repeat (first | exact HR0.out | (with_reducible refine cA ?_ _) | (with_reducible refine cN ?_ _) | (with_reducible refine cD ?_))); (case side2 => exact HC0.out); rintro e w13 ⟨rfl, hb⟩; refine ⟨_, rfl, ?_⟩; replace HB := tB HB hb; (try clear hb); (try clear hb2); (try clear hk); (try clear hi)) | (go_at_call 79; (with_reducible refine (spec_l1In.calls a1 (-80) 80 true _ A6.out).mono ?_); rintro e w' ⟨rfl, ⟨nd, rfl⟩⟩) | (go_at_call 79; (with_reducible refine (spec_l1In.calls a2 (-80) 80 false _ A8.out).mono ?_); rintro e w' ⟨rfl, ⟨nd, rfl⟩⟩))
    go_ret2
    exact ⟨_, by first | rfl | (simp [errW_none, errW_some] <;> rfl) | (simp [*, errW_none, errW_some] <;> rfl), by first | exact Kd.R_nil _ _ _ _ _ | exact Kd.N_nil _ _ _ _ _ | exact Kd.V_nil _ _ _ _ _ | exact Kd.Q_nil _ _ _ _ _ | exact Kd.S_nil _ _ _ _ _, bQ⟩
  ·replace c7 := Bool.eq_false_iff.mpr c7; subst c7; replace H := iF H
   simp only [Option.some.injEq, Prod.mk.injEq] at H
   obtain ⟨rfl, rfl⟩ := H
   go_enter Try.func34, Try.ntmps34
   go_wp2_with (first | ((with_reducible refine gC (f := 63) rfl ?_); refine goesL_ (some 9) rfl rfl Try.func63 kR rfl #[.slice A0 l0.length c0] rfl sQ ?_; (with_reducible refine (spec_pgGood.calls k _ _ l0 true _ ?side1 ?side2 A4.out).mono ?_); (case side1 => repeat (first | exact HR0.out | (with_reducible refine cA ?_ _) | (with_reducible refine cN ?_ _) | (with_reducible refine cD ?_))); (case side2 => exact HC0.out); rintro e w14 ⟨rfl, hb⟩; refine ⟨_, rfl, ?_⟩; replace HB := tB HB hb; (try clear hb); (try clear hb2); (try clear hk); (try clear hi)) | (go_at_call 79; (with_reducible refine (spec_l1In.calls a1 (-80) 80 false _ A6.out).mono ?_); rintro e w' ⟨rfl, ⟨nd, rfl⟩⟩))
   go_ret2
   exact ⟨_, by first | rfl | (simp [errW_none, errW_some] <;> rfl) | (simp [*, errW_none, errW_some] <;> rfl), by first | exact Kd.R_nil _ _ _ _ _ | exact Kd.N_nil _ _ _ _ _ | exact Kd.V_nil _ _ _ _ _ | exact Kd.Q_nil _ _ _ _ _ | exact Kd.S_nil _ _ _ _ _, bQ⟩
 ·replace c5 := Bool.eq_false_iff.mpr c5; subst c5; replace H := iF H
  simp only [Option.some.injEq, Prod.mk.injEq] at H
  obtain ⟨rfl, rfl⟩ := H
  go_enter Try.func34, Try.ntmps34
  go_wp2_with (first | ((with_reducible refine gC (f := 63) rfl ?_); refine goesL_ (some 9) rfl rfl Try.func63 kR rfl #[.slice A0 l0.length c0] rfl sQ ?_; (with_reducible refine (spec_pgGood.calls k _ _ l0 false _ ?side1 ?side2 A4.out).mono ?_); (case side1 => repeat (first | exact HR0.out | (with_reducible refine cA ?_ _) | (with_reducible refine cN ?_ _) | (with_reducible refine cD ?_))); (case side2 => exact HC0.out); rintro e w15 ⟨rfl, hb⟩; refine ⟨_, rfl, ?_⟩; replace HB := tB HB hb; (try clear hb); (try clear hb2); (try clear hk); (try clear hi)))
  go_ret2
  exact ⟨_, by first | rfl | (simp [errW_none, errW_some] <;> rfl) | (simp [*, errW_none, errW_some] <;> rfl), by first | exact Kd.R_nil _ _ _ _ _ | exact Kd.N_nil _ _ _ _ _ | exact Kd.V_nil _ _ _ _ _ | exact Kd.Q_nil _ _ _ _ _ | exact Kd.S_nil _ _ _ _ _, bQ⟩

def impl_size.f (a0 : Int) : Option (Int) := some (mx a0 (wrap64 (-a0)))
set_option maxHeartbeats 8000000 in
set_option maxRecDepth 100000 in
theorem impl_size.calls (a0 : Int) (r : Int) (w : World) (h : impl_size.f a0 = some r) :
  Calls Try.prog 126 #[.int .i64 a0] w fun e w' => e = .returned (.int .i64 r) ∧ Below w.heap.size w w' := by
 have HB := aM (Below.refl w.heap.size w)
 unfold impl_size.f at h; have H := h; clear h
 obtain ⟨ji2, hji2⟩ : ∃ j_ : Int, (mx a0 (wrap64 (-a0))) = j_ := ⟨_, rfl⟩
 (first | rw [hji2] at H | simp only [hji2] at H)
 have hji2_ : (if a0 < (wrap64 (-a0)) then (wrap64 (-a0)) else a0) = ji2 := hji2; obtain rfl := Option.some.inj H
 go_enter Try.func126, Try.ntmps126
 go_wp2
 go_ret
 exact ⟨by first | rfl | (simp [errW_none, errW_some] <;> rfl) | (simp only [← hji2]; first | rfl | (simp [errW_none, errW_some] <;> rfl)) | (simp [*, errW_none, errW_some] <;> rfl), bQ⟩

def impl_isWay.f (a0 : Int) (a1 : Int) : Option (Bool) := (impl_size.f a0).bind fun t179 => (if t179 ≤ 80 then ((impl_size.f a1).bind fun t180 => (if t180 ≤ 80 then (if a0 > (-1000) then (some (decide (a1 > (-1000)))) else (some false)) else (some false))) else (some false))
set_option maxHeartbeats 8000000 in
set_option maxRecDepth 100000 in
theorem impl_isWay.calls (a0 : Int) (a1 : Int) (r : Bool) (w : World) (h : impl_isWay.f a0 a1 = some r) :
  Calls Try.prog 81 #[.int .i64 a0, .int .i64 a1] w fun e w' => e = .returned (.bool r) ∧ Below w.heap.size w w' := by
 have HB := aM (Below.refl w.heap.size w)
 unfold impl_isWay.f at h; have H := h; clear h
 replace H := bS H; obtain ⟨t179, A3, H⟩ := H
 by_cases c4 : t179 ≤ 80
 ·rw [if_pos c4] at H; have c4b0 := dE c4; clear c4; replace H := bS H; obtain ⟨t180, A5, H⟩ := H
  by_cases c6 : t180 ≤ 80
  ·rw [if_pos c6] at H; have c6b0 := dE c6; clear c6
   by_cases c7 : a0 > (-1000)
   ·rw [if_pos c7] at H; have c7b0 := dE c7; clear c7; obtain rfl := Option.some.inj H
    go_enter Try.func81, Try.ntmps81
    go_wp2_with (first | ((with_reducible refine gC (f := 126) rfl ?_); refine goesL_ (some 6) rfl rfl Try.func126 kR rfl #[.int .i64 a0] rfl sQ ?_; (with_reducible refine (impl_size.calls a0 t179 _ A3.out).mono ?_); rintro e w8 ⟨rfl, hb⟩; refine ⟨_, rfl, ?_⟩; replace HB := tB HB hb; (try clear hb); (try clear hb2); (try clear hk); (try clear hi)) | (go_at_call 126; (with_reducible refine (impl_size.calls a1 t180 _ A5.out).mono ?_); rintro e w9 ⟨rfl, hb⟩; replace HB := tB HB hb; (try clear hb); (try clear hb2); (try clear hk); (try clear hi)))
    go_ret
    exact ⟨wQ, bQ⟩
   ·rw [if_neg c7] at H; have c7b0 := decide_eq_false c7; clear c7; obtain rfl := Option.some.inj H
    go_enter Try.func81, Try.ntmps81
    go_wp2_with (first | ((with_reducible refine gC (f := 126) rfl ?_); refine goesL_ (some 6) rfl rfl Try.func126 kR rfl #[.int .i64 a0] rfl sQ ?_; (with_reducible refine (impl_size.calls a0 t179 _ A3.out).mono ?_); rintro e w10 ⟨rfl, hb⟩; refine ⟨_, rfl, ?_⟩; replace HB := tB HB hb; (try clear hb); (try clear hb2); (try clear hk); (try clear hi)) | (go_at_call 126; (with_reducible refine (impl_size.calls a1 t180 _ A5.out).mono ?_); rintro e w11 ⟨rfl, hb⟩; replace HB := tB HB hb; (try clear hb); (try clear hb2); (try clear hk); (try clear hi)))
    go_ret
    exact ⟨wQ, bQ⟩
  ·rw [if_neg c6] at H; have c6b0 := decide_eq_false c6; clear c6; obtain rfl := Option.some.inj H
   go_enter Try.func81, Try.ntmps81
   go_wp2_with (first | ((with_reducible refine gC (f := 126) rfl ?_); refine goesL_ (some 6) rfl rfl Try.func126 kR rfl #[.int .i64 a0] rfl sQ ?_; (with_reducible refine (impl_size.calls a0 t179 _ A3.out).mono ?_); rintro e w12 ⟨rfl, hb⟩; refine ⟨_, rfl, ?_⟩; replace HB := tB HB hb; (try clear hb); (try clear hb2); (try clear hk); (try clear hi)) | (go_at_call 126; (with_reducible refine (impl_size.calls a1 t180 _ A5.out).mono ?_); rintro e w13 ⟨rfl, hb⟩; replace HB := tB HB hb; (try clear hb); (try clear hb2); (try clear hk); (try clear hi)))
   go_ret
   exact ⟨wQ, bQ⟩
 ·rw [if_neg c4] at H; have c4b0 := decide_eq_false c4; clear c4; obtain rfl := Option.some.inj H
  go_enter Try.func81, Try.ntmps81
  go_wp2_with (first | ((with_reducible refine gC (f := 126) rfl ?_); refine goesL_ (some 6) rfl rfl Try.func126 kR rfl #[.int .i64 a0] rfl sQ ?_; (with_reducible refine (impl_size.calls a0 t179 _ A3.out).mono ?_); rintro e w14 ⟨rfl, hb⟩; refine ⟨_, rfl, ?_⟩; replace HB := tB HB hb; (try clear hb); (try clear hb2); (try clear hk); (try clear hi)))
  go_ret
  exact ⟨wQ, bQ⟩

def impl_within.f (a0 : Int) (a1 : Int) (a2 : Int) : Option (Bool) := if a0 ≥ a1 then (some (decide (a0 ≤ a2))) else (some false)
set_option maxHeartbeats 8000000 in
set_option maxRecDepth 100000 in
theorem impl_within.calls (a0 : Int) (a1 : Int) (a2 : Int) (r : Bool) (w : World) (h : impl_within.f a0 a1 a2 = some r) :
  Calls Try.prog 59 #[.int .i64 a0, .int .i64 a1, .int .i64 a2] w fun e w' => e = .returned (.bool r) ∧ Drawn0 w w' := by
 unfold impl_within.f at h; have H := h; clear h
 by_cases c4 : a0 ≥ a1
 ·rw [if_pos c4] at H; have c4b0 := dE c4; clear c4; obtain rfl := Option.some.inj H
  go_enter Try.func59, Try.ntmps59
  go_wp2
  go_ret
  exact ⟨eQ, dQ⟩
 ·rw [if_neg c4] at H; have c4b0 := decide_eq_false c4; clear c4; obtain rfl := Option.some.inj H
  go_enter Try.func59, Try.ntmps59
  go_wp2
  go_ret
  exact ⟨eQ, dQ⟩

-- NOT PRINTED: function 139 (slices_IndexFunc_impl_Peg)

-- NOT PRINTED: function 121 (slices_ContainsFunc_impl_Peg)

def impl_IsPeg.f (a0_0 : Int) (a0_1 : Int) : Option (Bool) := (impl_within.f a0_0 (-40) 40).bind fun t182 => (if t182 = true then ((impl_within.f a0_1 (-40) 40).bind fun t183 => (some t183)) else (some false))
set_option maxHeartbeats 8000000 in
set_option maxRecDepth 100000 in
theorem impl_IsPeg.calls (a0_0 : Int) (a0_1 : Int) (r : Bool) (w : World) (h : impl_IsPeg.f a0_0 a0_1 = some r) :
  Calls Try.prog 62 #[.agg #[.int .i64 a0_0, .int .i64 a0_1]] w fun e w' => e = .returned (.bool r) ∧ Below w.heap.size w w' := by
 have hu26 := Try.underlying26; have HB := aM (Below.refl w.heap.size w)
 unfold impl_IsPeg.f at h; have H := h; clear h
 replace H := bS H; obtain ⟨t182, A2, H⟩ := H
 by_cases c3 : t182 = true
 ·subst c3; replace H := iT H; replace H := bS H; obtain ⟨t183, A4, H⟩ := H; obtain rfl := Option.some.inj H
  go_enter Try.func62, Try.ntmps62
  go_wp2_with (first | ((with_reducible refine gate_dst (N := 1) rfl ?_); refine bV 1 (cs := #[.int .i64 a0_0, .int .i64 a0_1]) (t := 26) rfl rfl (by first | (go_simp; done) | (go_simp; rfl)) ?_; intro gb181 hg w5 hbox hb; have BK181 := hbox; have GW181 := gZ HB hg; have GE181 := gZ HB hg; replace HB := tB HB hb; clear hb hbox hg; have hcz6_0 := vZ0 BK181; have hcz6_1 := vZ1 BK181; have hfz6_0 := kF BK181.out 0; have hfz6_1 := kF BK181.out 1) | ((with_reducible refine gC (f := 59) rfl ?_); refine goesL_ (some 5) rfl rfl Try.func59 kR rfl #[.int .i64 a0_0, .int .i64 (-40), .int .i64 40] rfl sQ ?_; (with_reducible refine (impl_within.calls a0_0 (-40) 40 true _ A2.out).mono ?_); rintro e w' ⟨rfl, ⟨nd, rfl⟩⟩; refine ⟨_, rfl, ?_⟩) | (go_at_call 59; (with_reducible refine (impl_within.calls a0_1 (-40) 40 t183 _ A4.out).mono ?_); rintro e w' ⟨rfl, ⟨nd, rfl⟩⟩))
  go_ret
  exact ⟨wQ, bE⟩
 ·replace c3 := Bool.eq_false_iff.mpr c3; subst c3; replace H := iF H; obtain rfl := Option.some.inj H
  go_enter Try.func62, Try.ntmps62
  go_wp2_with (first | ((with_reducible refine gate_dst (N := 1) rfl ?_); refine bV 1 (cs := #[.int .i64 a0_0, .int .i64 a0_1]) (t := 26) rfl rfl (by first | (go_simp; done) | (go_simp; rfl)) ?_; intro gb181 hg w7 hbox hb; have BK181 := hbox; have GW181 := gZ HB hg; have GE181 := gZ HB hg; replace HB := tB HB hb; clear hb hbox hg; have hcz8_0 := vZ0 BK181; have hcz8_1 := vZ1 BK181; have hfz8_0 := kF BK181.out 0; have hfz8_1 := kF BK181.out 1) | ((with_reducible refine gC (f := 59) rfl ?_); refine goesL_ (some 5) rfl rfl Try.func59 kR rfl #[.int .i64 a0_0, .int .i64 (-40), .int .i64 40] rfl sQ ?_; (with_reducible refine (impl_within.calls a0_0 (-40) 40 false _ A2.out).mono ?_); rintro e w' ⟨rfl, ⟨nd, rfl⟩⟩; refine ⟨_, rfl, ?_⟩))
  go_ret
  exact ⟨wQ, bE⟩

def impl_arePegs_1.f (a0_0 : Int) (a0_1 : Int) : Option (Bool) := (impl_IsPeg.f a0_0 a0_1).bind fun t185 => (some (!t185))
set_option maxHeartbeats 8000000 in
set_option maxRecDepth 100000 in
theorem impl_arePegs_1.calls (a0_0 : Int) (a0_1 : Int) (r : Bool) (w : World) (h : impl_arePegs_1.f a0_0 a0_1 = some r) :
  Calls Try.prog 122 #[.agg #[.int .i64 a0_0, .int .i64 a0_1]] w fun e w' => e = .returned (.bool r) ∧ Below w.heap.size w w' := by
 have hu26 := Try.underlying26; have HB := aM (Below.refl w.heap.size w)
 unfold impl_arePegs_1.f at h; have H := h; clear h
 replace H := bS H; obtain ⟨t185, A2, H⟩ := H; obtain rfl := Option.some.inj H
 go_enter Try.func122, Try.ntmps122
 go_wp2_with (first | ((with_reducible refine gate_dst (N := 1) rfl ?_); refine bV 1 (cs := #[.int .i64 a0_0, .int .i64 a0_1]) (t := 26) rfl rfl (by first | (go_simp; done) | (go_simp; rfl)) ?_; intro gb184 hg w3 hbox hb; have BK184 := hbox; have GW184 := gZ HB hg; have GE184 := gZ HB hg; replace HB := tB HB hb; clear hb hbox hg; have hcz4_0 := vZ0 BK184; have hcz4_1 := vZ1 BK184; have hfz4_0 := kF BK184.out 0; have hfz4_1 := kF BK184.out 1) | ((with_reducible refine gC (f := 62) rfl ?_); refine goesL_ (some 4) rfl rfl Try.func62 kR rfl #[.agg #[.int .i64 a0_0, .int .i64 a0_1]] rfl sQ ?_; (with_reducible refine (impl_IsPeg.calls a0_0 a0_1 t185 _ A2.out).mono ?_); rintro e w5 ⟨rfl, hb⟩; refine ⟨_, rfl, ?_⟩; replace BK184 := bB BK184 hb; replace HB := tB HB hb; (try clear hb); (try clear hb2); (try clear hk); (try clear hi)))
 go_ret
 exact ⟨wQ, bE⟩

def slices_IndexFunc_impl_Peg_at_impl_arePegs_1.l0 : Nat → List (S_impl_Peg) → Int → Int → Option (Int)
 | 0, _, _, _ => none
 | k + 1, x0, x7, x8 => if x8 < x7 then (if 0 ≤ x8 then (if x8 < (x0.length : Int) then ((impl_arePegs_1.f ((rd_impl_Peg x0 x8).f0) ((rd_impl_Peg x0 x8).f1)).bind fun t187 => (if t187 = true then (some x8) else (slices_IndexFunc_impl_Peg_at_impl_arePegs_1.l0 k x0 x7 (wrap64 (x8 + 1))))) else (none)) else (none)) else (some (-1))
def slices_IndexFunc_impl_Peg_at_impl_arePegs_1.f (k : Nat) (l0 : List (S_impl_Peg)) : Option (Int) := slices_IndexFunc_impl_Peg_at_impl_arePegs_1.l0 k l0 (l0.length : Int) 0
theorem slices_IndexFunc_impl_Peg_at_impl_arePegs_1.mono_l : ∀ k, (∀ y0 y1 y2, LeO (slices_IndexFunc_impl_Peg_at_impl_arePegs_1.l0 k y0 y1 y2) (slices_IndexFunc_impl_Peg_at_impl_arePegs_1.l0 (k + 1) y0 y1 y2))
 | 0 => fun _ _ _ r h => by simp [slices_IndexFunc_impl_Peg_at_impl_arePegs_1.l0] at h
 | k + 1 => by
  have ih0 := slices_IndexFunc_impl_Peg_at_impl_arePegs_1.mono_l k
  ·intro y0 y1 y2
   unfold slices_IndexFunc_impl_Peg_at_impl_arePegs_1.l0
   repeat' first
   | (with_reducible exact ih0 _ _ _)
   | (with_reducible exact LeO.refl _)
   | (with_reducible exact LeO.none _)
   | (with_reducible refine LeO.ite ?_ ?_)
   | (with_reducible refine LeO.bind ?_ (fun _ => ?_))
   | exact ih0 _ _ _
   | exact LeO.none _
   | refine LeO.ite ?_ ?_
   | refine LeO.bind ?_ (fun _ => ?_)
theorem slices_IndexFunc_impl_Peg_at_impl_arePegs_1.mono : ∀ a0 k, LeO (slices_IndexFunc_impl_Peg_at_impl_arePegs_1.f k a0) (slices_IndexFunc_impl_Peg_at_impl_arePegs_1.f (k + 1) a0) := by
 intro a0 k
 have ih0 := slices_IndexFunc_impl_Peg_at_impl_arePegs_1.mono_l k
 unfold slices_IndexFunc_impl_Peg_at_impl_arePegs_1.f
 repeat' first | (with_reducible exact ih0 _ _ _) | (with_reducible exact LeO.refl _) | (with_reducible exact LeO.none _) | (with_reducible refine LeO.ite ?_ ?_) | (with_reducible refine LeO.bind ?_ (fun _ => ?_)) | exact ih0 _ _ _ | exact LeO.none _ | refine LeO.ite ?_ ?_ | refine LeO.bind ?_ (fun _ => ?_)
set_option maxHeartbeats 8000000 in
set_option maxRecDepth 100000 in
theorem slices_IndexFunc_impl_Peg_at_impl_arePegs_1.calls (k : Nat) (A0 : Option Addr) (c0 : Nat) (l0 : List (S_impl_Peg)) (r : Int) (w : World) (hr0 : Kd.C kd_impl_Peg w A0 l0.length l0) (hc0 : l0.length ≤ c0) (h : slices_IndexFunc_impl_Peg_at_impl_arePegs_1.f k l0 = some r) :
  Calls Try.prog 139 #[.slice A0 l0.length c0, .func (.func 122) #[] #[]] w fun e w' => e = .returned (.int .i64 r) ∧ Below w.heap.size w w' := by
 have hu26 := Try.underlying26; have HR0 := aM hr0; have HC0 := aM hc0; clear hr0 hc0; have HB := aM (Below.refl w.heap.size w)
 unfold slices_IndexFunc_impl_Peg_at_impl_arePegs_1.f at h; have H := h; clear h
 have H' := aM H; clear H
 go_enter Try.func139, Try.ntmps139
 go_wp2
 go_loopg [8] k (fun kq v8 w' => ∃ (x8_1 : Int), v8 = .int .i64 x8_1 ∧ Aside0 (slices_IndexFunc_impl_Peg_at_impl_arePegs_1.l0 kq l0 (l0.length : Int) x8_1 = some r) ∧ Aside0 (kq ≤ k) ∧ Aside0 (Below w.heap.size w w'))
 case atStart => exact ⟨(0), eQ, H', ⟨Nat.le_refl _⟩, ⟨bQ⟩⟩
 case round =>
  clear H'; obtain ⟨x8_1, rfl, HA, HK1, HB⟩ := hrel
  cases gk with
  | zero => exact absurd HA.out (by simp [slices_IndexFunc_impl_Peg_at_impl_arePegs_1.l0])
  | succ k1 =>
   have H := HA.out; clear HA
   simp only [slices_IndexFunc_impl_Peg_at_impl_arePegs_1.l0] at H
   by_cases c2 : x8_1 < (l0.length : Int)
   ·rw [if_pos c2] at H; have c2b0 := dE c2; clear c2; replace H := iD H; obtain ⟨c3b0, H⟩ := H; replace H := iD H; obtain ⟨c4b0, H⟩ := H; replace H := bS H; obtain ⟨t187, A5, H⟩ := H
    by_cases c6 : t187 = true
    ·subst c6; replace H := iT H; obtain rfl := Option.some.inj H; have p186 : 0 ≤ (x8_1 : Int) := dT aQ; have q186 : x8_1 < (l0.length : Int) := dT aQ; obtain ⟨ad186, e186, hx186_0, hx186_1⟩ := at_impl_Peg HR0.out x8_1 p186 q186
     cases e186
     replace hx186_0 := hC HB hx186_0; replace hx186_1 := hC HB hx186_1; replace p186 := eq_true p186; replace q186 := eq_true q186
     go_wp2_with (first | ((with_reducible refine gate_tmp rfl ?_); refine goesLT_ (some 16) rfl rfl Try.func122 kR rfl #[.agg #[.int .i64 ((rd_impl_Peg l0 x8_1).f0), .int .i64 ((rd_impl_Peg l0 x8_1).f1)]] rfl (by first | rfl | (simp [Act.eval]; done)) sQ ?_; (with_reducible refine (impl_arePegs_1.calls ((rd_impl_Peg l0 x8_1).f0) ((rd_impl_Peg l0 x8_1).f1) true _ A5.out).mono ?_); rintro e w7 ⟨rfl, hb⟩; refine ⟨_, rfl, ?_⟩; replace HB := tB HB hb; (try clear hb); (try clear hb2); (try clear hk); (try clear hi)))
     go_ret
     exact ⟨wQ, bQ⟩
    ·replace c6 := Bool.eq_false_iff.mpr c6; subst c6; replace H := iF H; have H' := aM H; clear H; have p186 : 0 ≤ (x8_1 : Int) := dT aQ; have q186 : x8_1 < (l0.length : Int) := dT aQ; obtain ⟨ad186, e186, hx186_0, hx186_1⟩ := at_impl_Peg HR0.out x8_1 p186 q186
     cases e186
     replace hx186_0 := hC HB hx186_0; replace hx186_1 := hC HB hx186_1; replace p186 := eq_true p186; replace q186 := eq_true q186
     go_wp2_with (first | ((with_reducible refine gate_tmp rfl ?_); refine goesLT_ (some 16) rfl rfl Try.func122 kR rfl #[.agg #[.int .i64 ((rd_impl_Peg l0 x8_1).f0), .int .i64 ((rd_impl_Peg l0 x8_1).f1)]] rfl (by first | rfl | (simp [Act.eval]; done)) sQ ?_; (with_reducible refine (impl_arePegs_1.calls ((rd_impl_Peg l0 x8_1).f0) ((rd_impl_Peg l0 x8_1).f1) false _ A5.out).mono ?_); rintro e w8 ⟨rfl, hb⟩; refine ⟨_, rfl, ?_⟩; replace HB := tB HB hb; (try clear hb); (try clear hb2); (try clear hk); (try clear hi)))
     go_roundg k1
     case measure => have := HK1.out; omega
     case rel => exact ⟨(wrap64 (x8_1 + 1)), eQ, H', ⟨by have := HK1.out; omega⟩, ⟨bQ⟩⟩
   ·rw [if_neg c2] at H; have c2b0 := decide_eq_false c2; clear c2; obtain rfl := Option.some.inj H; go_wp2
    go_ret
    exact ⟨wQ, bQ⟩

def slices_ContainsFunc_impl_Peg_at_impl_arePegs_1.f (k : Nat) (l0 : List (S_impl_Peg)) : Option (Bool) := (slices_IndexFunc_impl_Peg_at_impl_arePegs_1.f k l0).bind fun t188 => (some (decide (t188 ≥ 0)))
theorem slices_ContainsFunc_impl_Peg_at_impl_arePegs_1.mono : ∀ a0 k, LeO (slices_ContainsFunc_impl_Peg_at_impl_arePegs_1.f k a0) (slices_ContainsFunc_impl_Peg_at_impl_arePegs_1.f (k + 1) a0) := by
 intro a0 k
 unfold slices_ContainsFunc_impl_Peg_at_impl_arePegs_1.f
 repeat' first | (with_reducible exact slices_IndexFunc_impl_Peg_at_impl_arePegs_1.mono _ _) | (with_reducible exact LeO.refl _) | (with_reducible exact LeO.none _) | (with_reducible refine LeO.ite ?_ ?_) | (with_reducible refine LeO.bind ?_ (fun _ => ?_)) | exact slices_IndexFunc_impl_Peg_at_impl_arePegs_1.mono _ _ | exact LeO.none _ | refine LeO.ite ?_ ?_ | refine LeO.bind ?_ (fun _ => ?_)
set_option maxHeartbeats 8000000 in
set_option maxRecDepth 100000 in
theorem slices_ContainsFunc_impl_Peg_at_impl_arePegs_1.calls (k : Nat) (A0 : Option Addr) (c0 : Nat) (l0 : List (S_impl_Peg)) (r : Bool) (w : World) (hr0 : Kd.C kd_impl_Peg w A0 l0.length l0) (hc0 : l0.length ≤ c0) (h : slices_ContainsFunc_impl_Peg_at_impl_arePegs_1.f k l0 = some r) :
  Calls Try.prog 121 #[.slice A0 l0.length c0, .func (.func 122) #[] #[]] w fun e w' => e = .returned (.bool r) ∧ Below w.heap.size w w' := by
 have HR0 := aM hr0; have HC0 := aM hc0; clear hr0 hc0; have HB := aM (Below.refl w.heap.size w)
 unfold slices_ContainsFunc_impl_Peg_at_impl_arePegs_1.f at h; have H := h; clear h
 replace H := bS H; obtain ⟨t188, A2, H⟩ := H; obtain rfl := Option.some.inj H
 go_enter Try.func121, Try.ntmps121
 go_wp2_with (first | ((with_reducible refine gC (f := 139) rfl ?_); refine goesL_ (some 7) rfl rfl Try.func139 kR rfl #[.slice A0 l0.length c0, .func (.func 122) #[] #[]] rfl sQ ?_; (with_reducible refine (slices_IndexFunc_impl_Peg_at_impl_arePegs_1.calls k _ _ l0 t188 _ ?side1 ?side2 A2.out).mono ?_); (case side1 => repeat (first | exact HR0.out | (with_reducible refine cA ?_ _) | (with_reducible refine cN ?_ _) | (with_reducible refine cD ?_))); (case side2 => exact HC0.out); rintro e w3 ⟨rfl, hb⟩; refine ⟨_, rfl, ?_⟩; replace HB := tB HB hb; (try clear hb); (try clear hb2); (try clear hk); (try clear hi)))
 go_ret
 exact ⟨wQ, bQ⟩

def impl_arePegs.f (k : Nat) (l0 : List (S_impl_Peg)) : Option (Bool) := (slices_ContainsFunc_impl_Peg_at_impl_arePegs_1.f k l0).bind fun t189 => (some (!t189))
theorem impl_arePegs.mono : ∀ a0 k, LeO (impl_arePegs.f k a0) (impl_arePegs.f (k + 1) a0) := by
 intro a0 k
 unfold impl_arePegs.f
 repeat' first | (with_reducible exact slices_ContainsFunc_impl_Peg_at_impl_arePegs_1.mono _ _) | (with_reducible exact LeO.refl _) | (with_reducible exact LeO.none _) | (with_reducible refine LeO.ite ?_ ?_) | (with_reducible refine LeO.bind ?_ (fun _ => ?_)) | exact slices_ContainsFunc_impl_Peg_at_impl_arePegs_1.mono _ _ | exact LeO.none _ | refine LeO.ite ?_ ?_ | refine LeO.bind ?_ (fun _ => ?_)
set_option maxHeartbeats 8000000 in
set_option maxRecDepth 100000 in
theorem impl_arePegs.calls (k : Nat) (A0 : Option Addr) (c0 : Nat) (l0 : List (S_impl_Peg)) (r : Bool) (w : World) (hr0 : Kd.C kd_impl_Peg w A0 l0.length l0) (hc0 : l0.length ≤ c0) (h : impl_arePegs.f k l0 = some r) :
  Calls Try.prog 74 #[.slice A0 l0.length c0] w fun e w' => e = .returned (.bool r) ∧ Below w.heap.size w w' := by
 have HR0 := aM hr0; have HC0 := aM hc0; clear hr0 hc0; have HB := aM (Below.refl w.heap.size w)
 unfold impl_arePegs.f at h; have H := h; clear h
 replace H := bS H; obtain ⟨t189, A2, H⟩ := H; obtain rfl := Option.some.inj H
 go_enter Try.func74, Try.ntmps74
 go_wp2_with (first | ((with_reducible refine gC (f := 121) rfl ?_); refine goesL_ (some 4) rfl rfl Try.func121 kR rfl #[.slice A0 l0.length c0, .func (.func 122) #[] #[]] rfl sQ ?_; (with_reducible refine (slices_ContainsFunc_impl_Peg_at_impl_arePegs_1.calls k _ _ l0 t189 _ ?side1 ?side2 A2.out).mono ?_); (case side1 => repeat (first | exact HR0.out | (with_reducible refine cA ?_ _) | (with_reducible refine cN ?_ _) | (with_reducible refine cD ?_))); (case side2 => exact HC0.out); rintro e w3 ⟨rfl, hb⟩; refine ⟨_, rfl, ?_⟩; replace HB := tB HB hb; (try clear hb); (try clear hb2); (try clear hk); (try clear hi)))
 go_ret
 exact ⟨wQ, bQ⟩

def impl_at.f (l0 : List (S_impl_Peg)) (a1 : Int) : Option (Int × Int) := if (l0.length : Int) = 0 then (none) else (if 0 ≤ (Int.tmod (wrap64 ((Int.tmod a1 (l0.length : Int)) + (l0.length : Int))) (l0.length : Int)) then (if (Int.tmod (wrap64 ((Int.tmod a1 (l0.length : Int)) + (l0.length : Int))) (l0.length : Int)) < (l0.length : Int) then (some ((rd_impl_Peg l0 (Int.tmod (wrap64 ((Int.tmod a1 (l0.length : Int)) + (l0.length : Int))) (l0.length : Int))).f0, (rd_impl_Peg l0 (Int.tmod (wrap64 ((Int.tmod a1 (l0.length : Int)) + (l0.length : Int))) (l0.length : Int))).f1)) else (none)) else (none))
set_option maxHeartbeats 8000000 in
set_option maxRecDepth 100000 in
theorem impl_at.calls (A0 : Option Addr) (c0 : Nat) (l0 : List (S_impl_Peg)) (a1 : Int) (r1 : Int) (r2 : Int) (w : World) (hr0 : Kd.C kd_impl_Peg w A0 l0.length l0) (hc0 : l0.length ≤ c0) (h : impl_at.f l0 a1 = some (r1, r2)) :
  Calls Try.prog 108 #[.slice A0 l0.length c0, .int .i64 a1] w fun e w' => e = .returned (.agg #[.int .i64 r1, .int .i64 r2]) ∧ Below w.heap.size w w' := by
 have hu26 := Try.underlying26; have HR0 := aM hr0; have HC0 := aM hc0; clear hr0 hc0; have HB := aM (Below.refl w.heap.size w)
 unfold impl_at.f at h; have H := h; clear h
 replace H := iM H; obtain ⟨c3, H⟩ := H; have c3b0 : ((l0.length : Int) == 0) = false := beq_eq_false_iff_ne.mpr c3; have c3b1 : ((l0.length : Int) != 0) = true := bne_iff_ne.mpr c3; have c3b2 : ¬ (l0 = []) := fun h_ => c3 (by rw [h_]; rfl)
 obtain ⟨ji4, hji4⟩ : ∃ j_ : Int, (Int.tmod (wrap64 ((Int.tmod a1 (l0.length : Int)) + (l0.length : Int))) (l0.length : Int)) = j_ := ⟨_, rfl⟩
 (first | rw [hji4] at H | simp only [hji4] at H)
 replace H := iD H; obtain ⟨c5b0, H⟩ := H; replace H := iD H; obtain ⟨c6b0, H⟩ := H
 simp only [Option.some.injEq, Prod.mk.injEq] at H
 obtain ⟨rfl, rfl⟩ := H
 go_enter Try.func108, Try.ntmps108
 go_wp2_with (first | ((with_reducible refine gate_dst (N := 4) rfl ?_); refine bV 4 (cs := #[.int .i64 0, .int .i64 0]) (t := 26) rfl rfl (by first | (go_simp; done) | (go_simp; rfl)) ?_; intro gb190 hg w7 hbox hb; have BK190 := hbox; have GW190 := gZ HB hg; have GE190 := gZ HB hg; replace HB := tB HB hb; clear hb hbox hg; have p191 : 0 ≤ ((ji4) : Int) := dT aQ; have q191 : (ji4) < (l0.length : Int) := dT aQ; obtain ⟨ad191, e191, hx191_0, hx191_1⟩ := at_impl_Peg HR0.out (ji4) p191 q191; cases e191; replace hx191_0 := hC HB hx191_0; replace hx191_1 := hC HB hx191_1; replace p191 := eq_true p191; replace q191 := eq_true q191; have hcz8_0 := vZ0 BK190; have hcz8_1 := vZ1 BK190; have hfz8_0 := kF BK190.out 0; have hfz8_1 := kF BK190.out 1))
 refine bodyPost_ret (results_cell_row rfl _ _ gb190 26 #[.int .i64 ((rd_impl_Peg l0 (ji4)).f0), .int .i64 ((rd_impl_Peg l0 (ji4)).f1)] (0, 0) _ rfl (fQ BK190) Try.underlying26 rfl kR) rfl ?_
 exact ⟨by first | rfl | (simp [errW_none, errW_some] <;> rfl) | (simp only [← hji4]; first | rfl | (simp [errW_none, errW_some] <;> rfl)) | (simp [*, errW_none, errW_some] <;> rfl), bE⟩
end Go.Proofs.Ytklhakfmegbobaa.X
