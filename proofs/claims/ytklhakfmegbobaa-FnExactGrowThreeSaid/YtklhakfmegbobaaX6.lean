-- thin
-- short
-- compact
import Derived.Test.YtklhakfmegbobaaXA
import Derived.Test.YtklhakfmegbobaaX0
import Derived.Test.YtklhakfmegbobaaX3
import Derived.Test.YtklhakfmegbobaaX5
namespace Go.Proofs.Ytklhakfmegbobaa.X
open Go.RowKit Go.Proofs.Ytklhakfmegbobaa.XW Go.Proofs.YtklhakfmegbobaaW.PrintWords Go.Proofs.YtklhakfmegbobaaW.PrintLast Go.Proofs.YtklhakfmegbobaaW.PrintMore
attribute [local go_sem] max2_int min2_int max_two min_two max_three min_three max_four min_four   -- for this text's walks alone
set_option linter.unusedVariables false
set_option linter.unusedSimpArgs false

def spec_trThree.f (k : Nat) (l0 : List (S_impl_Peg)) : Option (Bool) := if (l0.length : Int) = 3 then ((spec_pgGood.f k l0).bind fun t165 => (some t165)) else (some false)
theorem spec_trThree.mono : ∀ a0 k, LeO (spec_trThree.f k a0) (spec_trThree.f (k + 1) a0) := by
 intro a0 k
 unfold spec_trThree.f
 repeat' first | (with_reducible exact spec_pgGood.mono _ _) | (with_reducible exact LeO.refl _) | (with_reducible exact LeO.none _) | (with_reducible refine LeO.ite ?_ ?_) | (with_reducible refine LeO.bind ?_ (fun _ => ?_)) | exact spec_pgGood.mono _ _ | exact LeO.none _ | refine LeO.ite ?_ ?_ | refine LeO.bind ?_ (fun _ => ?_)
set_option maxHeartbeats 8000000 in
set_option maxRecDepth 100000 in
theorem spec_trThree.calls (k : Nat) (A0 : Option Addr) (c0 : Nat) (l0 : List (S_impl_Peg)) (r : Bool) (w : World) (hr0 : Kd.C kd_impl_Peg w A0 l0.length l0) (hc0 : l0.length ≤ c0) (h : spec_trThree.f k l0 = some r) :
  Calls Try.prog 54 #[.slice A0 l0.length c0] w fun e w' => e = .returned (.bool r) ∧ Below w.heap.size w w' := by
 have HR0 := aM hr0; have HC0 := aM hc0; clear hr0 hc0; have HB := aM (Below.refl w.heap.size w)
 unfold spec_trThree.f at h; have H := h; clear h
 by_cases c2 : (l0.length : Int) = 3
 ·rw [if_pos c2] at H; have c2b0 : ((l0.length : Int) == 3) = true := beq_iff_eq.mpr c2; have c2b1 : ((l0.length : Int) != 3) = false := bne_eq_false_iff_eq.mpr c2; clear c2; replace H := bS H; obtain ⟨t165, A3, H⟩ := H; obtain rfl := Option.some.inj H
  go_enter Try.func54, Try.ntmps54
  go_wp2_with (first | (go_at_call 63; (with_reducible refine (spec_pgGood.calls k _ _ l0 t165 _ ?side1 ?side2 A3.out).mono ?_); (case side1 => repeat (first | exact HR0.out | (with_reducible refine cA ?_ _) | (with_reducible refine cN ?_ _) | (with_reducible refine cD ?_))); (case side2 => exact HC0.out); rintro e w4 ⟨rfl, hb⟩; replace HB := tB HB hb; (try clear hb); (try clear hb2); (try clear hk); (try clear hi)))
  go_ret
  exact ⟨wQ, bQ⟩
 ·rw [if_neg c2] at H; have c2b0 : ((l0.length : Int) == 3) = false := beq_eq_false_iff_ne.mpr c2; have c2b1 : ((l0.length : Int) != 3) = true := bne_iff_ne.mpr c2; obtain rfl := Option.some.inj H
  go_enter Try.func54, Try.ntmps54
  go_wp2
  go_ret
  exact ⟨wQ, bQ⟩

def spec_pgMap.l0 : Nat → Int → Int → Int → Int → Int → Int → List (S_impl_Peg) → List (S_impl_Peg) → Int → Int → Option ((List (S_impl_Peg)) × Bool)
 | 0, _, _, _, _, _, _, _, _, _, _ => none
 | k + 1, x1, x2, x3, x4, x5, x6, x16, x20, x21, x22 => if x22 < x21 then (if 0 ≤ x22 then (if x22 < (x20.length : Int) then ((spec_pgIs.f (wrap64 ((wrap64 ((wrap64 (x1 * ((rd_impl_Peg x20 x22).f0))) + (wrap64 (x2 * ((rd_impl_Peg x20 x22).f1))))) + x5)) (wrap64 ((wrap64 ((wrap64 (x3 * ((rd_impl_Peg x20 x22).f0))) + (wrap64 (x4 * ((rd_impl_Peg x20 x22).f1))))) + x6))).bind fun t169 => (if t169 = true then (if x16.length < 8796093022208 then (spec_pgMap.l0 k x1 x2 x3 x4 x5 x6 (x16 ++ [(⟨wrap64 ((wrap64 ((wrap64 (x1 * ((rd_impl_Peg x20 x22).f0))) + (wrap64 (x2 * ((rd_impl_Peg x20 x22).f1))))) + x5), wrap64 ((wrap64 ((wrap64 (x3 * ((rd_impl_Peg x20 x22).f0))) + (wrap64 (x4 * ((rd_impl_Peg x20 x22).f1))))) + x6)⟩ : S_impl_Peg)]) x20 x21 (wrap64 (x22 + 1))) else (none)) else (some (([] : List (S_impl_Peg)), false)))) else (none)) else (none)) else (some (x16, true))
def spec_pgMap.f (k : Nat) (l0 : List (S_impl_Peg)) (a1 : Int) (a2 : Int) (a3 : Int) (a4 : Int) (a5 : Int) (a6 : Int) : Option ((List (S_impl_Peg)) × Bool) := spec_pgMap.l0 k a1 a2 a3 a4 a5 a6 ([] : List (S_impl_Peg)) l0 (l0.length : Int) 0
theorem spec_pgMap.mono_l : ∀ k, (∀ y0 y1 y2 y3 y4 y5 y6 y7 y8 y9, LeO (spec_pgMap.l0 k y0 y1 y2 y3 y4 y5 y6 y7 y8 y9) (spec_pgMap.l0 (k + 1) y0 y1 y2 y3 y4 y5 y6 y7 y8 y9))
 | 0 => fun _ _ _ _ _ _ _ _ _ _ r h => by simp [spec_pgMap.l0] at h
 | k + 1 => by
  have ih0 := spec_pgMap.mono_l k
  ·intro y0 y1 y2 y3 y4 y5 y6 y7 y8 y9
   unfold spec_pgMap.l0
   repeat' first
   | (with_reducible exact ih0 _ _ _ _ _ _ _ _ _ _)
   | (with_reducible exact LeO.refl _)
   | (with_reducible exact LeO.none _)
   | (with_reducible refine LeO.ite ?_ ?_)
   | (with_reducible refine LeO.bind ?_ (fun _ => ?_))
   | exact ih0 _ _ _ _ _ _ _ _ _ _
   | exact LeO.none _
   | refine LeO.ite ?_ ?_
   | refine LeO.bind ?_ (fun _ => ?_)
theorem spec_pgMap.mono : ∀ a0 a1 a2 a3 a4 a5 a6 k, LeO (spec_pgMap.f k a0 a1 a2 a3 a4 a5 a6) (spec_pgMap.f (k + 1) a0 a1 a2 a3 a4 a5 a6) := by
 intro a0 a1 a2 a3 a4 a5 a6 k
 have ih0 := spec_pgMap.mono_l k
 unfold spec_pgMap.f
 repeat' first | (with_reducible exact ih0 _ _ _ _ _ _ _ _ _ _) | (with_reducible exact LeO.refl _) | (with_reducible exact LeO.none _) | (with_reducible refine LeO.ite ?_ ?_) | (with_reducible refine LeO.bind ?_ (fun _ => ?_)) | exact ih0 _ _ _ _ _ _ _ _ _ _ | exact LeO.none _ | refine LeO.ite ?_ ?_ | refine LeO.bind ?_ (fun _ => ?_)
set_option maxHeartbeats 8000000 in
set_option maxRecDepth 100000 in
theorem spec_pgMap.calls (k : Nat) (A0 : Option Addr) (c0 : Nat) (l0 : List (S_impl_Peg)) (a1 : Int) (a2 : Int) (a3 : Int) (a4 : Int) (a5 : Int) (a6 : Int) (r1 : List (S_impl_Peg)) (r2 : Bool) (w : World) (hr0 : Kd.C kd_impl_Peg w A0 l0.length l0) (hc0 : l0.length ≤ c0) (h : spec_pgMap.f k l0 a1 a2 a3 a4 a5 a6 = some (r1, r2)) :
  Calls Try.prog 80 #[.slice A0 l0.length c0, .int .i64 a1, .int .i64 a2, .int .i64 a3, .int .i64 a4, .int .i64 a5, .int .i64 a6] w fun e w' => ∃ v0_ : Value, e = .returned (.tuple #[v0_, .bool r2]) ∧ Kd.R kd_impl_Peg 26 w' w.heap.size (fun _ => True) v0_ r1 ∧ Below w.heap.size w w' := by
 have hu26 := Try.underlying26; have HR0 := aM hr0; have HC0 := aM hc0; clear hr0 hc0; have HB := aM (Below.refl w.heap.size w)
 unfold spec_pgMap.f at h; have H := h; clear h
 have H' := aM H; clear H
 go_enter Try.func80, Try.ntmps80
 go_wp2
 go_loopg [16, 22] k (fun kq v16 v22 w' => ∃ (x16_1 : List (S_impl_Peg)) (x22_1 : Int), v22 = .int .i64 x22_1 ∧ Aside0 (spec_pgMap.l0 kq a1 a2 a3 a4 a5 a6 x16_1 l0 (l0.length : Int) x22_1 = some (r1, r2)) ∧ Aside0 (kq ≤ k) ∧ Aside0 (Kd.R kd_impl_Peg 26 w' w.heap.size (fun _ => True) v16 x16_1) ∧ Aside0 (Below w.heap.size w w'))
 case atStart => exact ⟨(([] : List (S_impl_Peg))), (0), eQ, H', ⟨Nat.le_refl _⟩, ⟨by first | exact Kd.R_nil _ _ _ _ _ | exact Kd.N_nil _ _ _ _ _ | exact Kd.V_nil _ _ _ _ _ | exact Kd.Q_nil _ _ _ _ _ | exact Kd.S_nil _ _ _ _ _⟩, ⟨bQ⟩⟩
 case round =>
  clear H'; obtain ⟨x16_1, x22_1, rfl, HA, HK1, HO_16, HB⟩ := hrel
  cases gk with
  | zero => exact absurd HA.out (by simp [spec_pgMap.l0])
  | succ k1 =>
   have H := HA.out; clear HA
   simp only [spec_pgMap.l0] at H
   by_cases c8 : x22_1 < (l0.length : Int)
   ·rw [if_pos c8] at H; have c8b0 := dE c8; clear c8; replace H := iD H; obtain ⟨c9b0, H⟩ := H; replace H := iD H; obtain ⟨c10b0, H⟩ := H; replace H := bS H; obtain ⟨t169, A11, H⟩ := H
    by_cases c12 : t169 = true
    ·subst c12; replace H := iT H; replace H := iN H; obtain ⟨c13, H⟩ := H; have LMc13 := aM c13; clear c13; obtain ⟨y170, hy170⟩ : ∃ y_ : List (S_impl_Peg), y_ = (x16_1 ++ [(⟨wrap64 ((wrap64 ((wrap64 (a1 * ((rd_impl_Peg l0 x22_1).f0))) + (wrap64 (a2 * ((rd_impl_Peg l0 x22_1).f1))))) + a5), wrap64 ((wrap64 ((wrap64 (a3 * ((rd_impl_Peg l0 x22_1).f0))) + (wrap64 (a4 * ((rd_impl_Peg l0 x22_1).f1))))) + a6)⟩ : S_impl_Peg)]) := ⟨_, rfl⟩; rw [← hy170] at H; have Ny170 := aM hy170; clear hy170; have H' := aM H; clear H; have p166 : 0 ≤ (x22_1 : Int) := dT aQ; have q166 : x22_1 < (l0.length : Int) := dT aQ; obtain ⟨ad166, e166, hx166_0, hx166_1⟩ := at_impl_Peg HR0.out x22_1 p166 q166
     cases e166
     replace hx166_0 := hC HB hx166_0; replace hx166_1 := hC HB hx166_1; replace p166 := eq_true p166; replace q166 := eq_true q166
     go_wp2_with (first | ((with_reducible refine gate_dst (N := 18) rfl ?_); refine bV 18 (cs := #[.int .i64 0, .int .i64 0]) (t := 26) rfl rfl (by first | (go_simp; done) | (go_simp; rfl)) ?_; intro gb167 hg w14 hbox hb; have BK167 := hbox; have GW167 := gZ HB hg; have GE167 := gZ HB hg; replace HO_16 := aM (Kd.R_below (Kd.R_elderB (by (with_reducible repeat (first | apply rA | apply rN | apply rD)); exact HO_16.out) gb167 (Nat.le_of_eq hg.symm)) hb); replace HB := tB HB hb; clear hb hbox hg; have hcz15_0 := vZ0 BK167; have hcz15_1 := vZ1 BK167; have hfz15_0 := kF BK167.out 0; have hfz15_1 := kF BK167.out 1) | ((with_reducible refine gate_dst (N := 19) rfl ?_); refine bV 19 (cs := #[.int .i64 0, .int .i64 0]) (t := 26) rfl rfl (by first | (go_simp; done) | (go_simp; rfl)) ?_; intro gb168 hg w16 hbox hb; have BK168 := hbox; have GW168 := gZ HB hg; have GE168 := gZ HB hg; have NB167_168 := aM ((by rw [hg]; exact nN (blk_lt (g := gb167) (o := .cells #[.int .i64 ((rd_impl_Peg l0 x22_1).f0), .int .i64 ((rd_impl_Peg l0 x22_1).f1)] 26 (0, 0)) (fQ BK167)) : gb167 ≠ gb168)); have NB168_167 := aM ((by rw [hg]; exact Nat.ne_of_gt (blk_lt (g := gb167) (o := .cells #[.int .i64 ((rd_impl_Peg l0 x22_1).f0), .int .i64 ((rd_impl_Peg l0 x22_1).f1)] 26 (0, 0)) (fQ BK167)) : gb168 ≠ gb167)); replace HO_16 := aM (Kd.R_below (Kd.R_elderB (by (with_reducible repeat (first | apply rA | apply rN | apply rD)); exact (Kd.R_mono (Kd.R_far (p := ⟨gb167, 1, none⟩) (Kd.R_far (p := ⟨gb167, 0, none⟩) (Kd.R_mono HO_16.out (fun k_ hk => (⟨hk, hk.2⟩ : _ ∧ k_ ≠ gb167))) (fun _ hk => hk.2) (.int .i64 ((rd_impl_Peg l0 x22_1).f0))) (fun _ hk => hk.2) (.int .i64 ((rd_impl_Peg l0 x22_1).f1))) (fun _ h_ => h_.1))) gb168 (Nat.le_of_eq hg.symm)) hb); replace BK167 := aM (blk_below (g := gb167) (o := .cells #[.int .i64 ((rd_impl_Peg l0 x22_1).f0), .int .i64 ((rd_impl_Peg l0 x22_1).f1)] 26 (0, 0)) (fQ BK167) hb); replace HB := tB HB hb; clear hb hbox hg; have hnb17 := NB168_167.out; have hnc17 := NB167_168.out; have hcz18_0 := vZ0 BK168; have hcz18_1 := vZ1 BK168; have hfz18_0 := kF BK168.out 0; have hfz18_1 := kF BK168.out 1) | ((with_reducible refine gC (f := 57) rfl ?_); refine goesL_ (some 50) rfl rfl Try.func57 kR rfl #[.agg #[.int .i64 (wrap64 ((wrap64 ((wrap64 (a1 * ((rd_impl_Peg l0 x22_1).f0))) + (wrap64 (a2 * ((rd_impl_Peg l0 x22_1).f1))))) + a5)), .int .i64 (wrap64 ((wrap64 ((wrap64 (a3 * ((rd_impl_Peg l0 x22_1).f0))) + (wrap64 (a4 * ((rd_impl_Peg l0 x22_1).f1))))) + a6))]] rfl sQ ?_; (with_reducible refine (spec_pgIs.calls (wrap64 ((wrap64 ((wrap64 (a1 * ((rd_impl_Peg l0 x22_1).f0))) + (wrap64 (a2 * ((rd_impl_Peg l0 x22_1).f1))))) + a5)) (wrap64 ((wrap64 ((wrap64 (a3 * ((rd_impl_Peg l0 x22_1).f0))) + (wrap64 (a4 * ((rd_impl_Peg l0 x22_1).f1))))) + a6)) true _ A11.out).mono ?_); rintro e w19 ⟨rfl, hb⟩; refine ⟨_, rfl, ?_⟩; replace HO_16 := aM (Kd.R_below (by (with_reducible repeat (first | apply rA | apply rN | apply rD)); exact (Kd.R_mono (Kd.R_far (p := ⟨gb168, 1, none⟩) (Kd.R_far (p := ⟨gb168, 0, none⟩) (Kd.R_mono HO_16.out (fun k_ hk => (⟨hk, hk.2⟩ : _ ∧ k_ ≠ gb168))) (fun _ hk => hk.2) (.int .i64 (wrap64 ((wrap64 ((wrap64 (a1 * ((rd_impl_Peg l0 x22_1).f0))) + (wrap64 (a2 * ((rd_impl_Peg l0 x22_1).f1))))) + a5)))) (fun _ hk => hk.2) (.int .i64 (wrap64 ((wrap64 ((wrap64 (a3 * ((rd_impl_Peg l0 x22_1).f0))) + (wrap64 (a4 * ((rd_impl_Peg l0 x22_1).f1))))) + a6)))) (fun _ h_ => h_.1))) hb); replace BK167 := aM (blk_below (g := gb167) (o := .cells #[.int .i64 ((rd_impl_Peg l0 x22_1).f0), .int .i64 ((rd_impl_Peg l0 x22_1).f1)] 26 (0, 0)) (fQ BK167) hb); replace BK168 := aM (blk_below (g := gb168) (o := .cells #[.int .i64 (wrap64 ((wrap64 ((wrap64 (a1 * ((rd_impl_Peg l0 x22_1).f0))) + (wrap64 (a2 * ((rd_impl_Peg l0 x22_1).f1))))) + a5)), .int .i64 (wrap64 ((wrap64 ((wrap64 (a3 * ((rd_impl_Peg l0 x22_1).f0))) + (wrap64 (a4 * ((rd_impl_Peg l0 x22_1).f1))))) + a6))] 26 (0, 0)) (fQ BK168) hb); replace HB := tB HB hb; (try clear hb); (try clear hb2); (try clear hk); (try clear hi); have hcz20_0 : w19.cell? ⟨gb168, 0, none⟩ = some (.int .i64 (wrap64 ((wrap64 ((wrap64 (a1 * ((rd_impl_Peg l0 x22_1).f0))) + (wrap64 (a2 * ((rd_impl_Peg l0 x22_1).f1))))) + a5))) := vZ0 BK168; have hcz20_1 : w19.cell? ⟨gb168, 1, none⟩ = some (.int .i64 (wrap64 ((wrap64 ((wrap64 (a3 * ((rd_impl_Peg l0 x22_1).f0))) + (wrap64 (a4 * ((rd_impl_Peg l0 x22_1).f1))))) + a6))) := vZ1 BK168; have hfz20_0 := kF BK168.out 0; have hfz20_1 := kF BK168.out 1) | ((with_reducible refine gate_builtin (b := .append) (xs := #[.tmp 52, .tmp 54]) rfl ?_); at_builtin; refine Kd.R_append kd_impl_Peg (w0 := w) w.heap.size rfl (.tmp 52) (.tmp 54) 29 26 (.agg #[(.int .i64 0), (.int .i64 0)]) 16 rfl Try.underlying29 info26 rfl (by decide) (by omega) u16 x16_1 (⟨wrap64 ((wrap64 ((wrap64 (a1 * ((rd_impl_Peg l0 x22_1).f0))) + (wrap64 (a2 * ((rd_impl_Peg l0 x22_1).f1))))) + a5), wrap64 ((wrap64 ((wrap64 (a3 * ((rd_impl_Peg l0 x22_1).f0))) + (wrap64 (a4 * ((rd_impl_Peg l0 x22_1).f1))))) + a6)⟩ : S_impl_Peg) [.int .i64 (wrap64 ((wrap64 ((wrap64 (a1 * ((rd_impl_Peg l0 x22_1).f0))) + (wrap64 (a2 * ((rd_impl_Peg l0 x22_1).f1))))) + a5)), .int .i64 (wrap64 ((wrap64 ((wrap64 (a3 * ((rd_impl_Peg l0 x22_1).f0))) + (wrap64 (a4 * ((rd_impl_Peg l0 x22_1).f1))))) + a6))] (fun k_ => k_ ≠ gb167 ∧ k_ ≠ gb168) (fun _ => False) rfl rfl ?aP (fun _ hk => hk.elim) ?aF ?aO ?aB ?aS ?aL ?_; (case aP => exact kd_impl_Peg_mkM _ _ _ (⟨wrap64 ((wrap64 ((wrap64 (a1 * ((rd_impl_Peg l0 x22_1).f0))) + (wrap64 (a2 * ((rd_impl_Peg l0 x22_1).f1))))) + a5), wrap64 ((wrap64 ((wrap64 (a3 * ((rd_impl_Peg l0 x22_1).f0))) + (wrap64 (a4 * ((rd_impl_Peg l0 x22_1).f1))))) + a6)⟩ : S_impl_Peg)); (case aB => exact bE); (case aF => exact (fun k_ hk => ⟨Kd.freshB (g := gb167) (o := .cells #[.int .i64 ((rd_impl_Peg l0 x22_1).f0), .int .i64 ((rd_impl_Peg l0 x22_1).f1)] 26 (0, 0)) (gQ BK167) k_ hk, Kd.freshB (g := gb168) (o := .cells #[.int .i64 (wrap64 ((wrap64 ((wrap64 (a1 * ((rd_impl_Peg l0 x22_1).f0))) + (wrap64 (a2 * ((rd_impl_Peg l0 x22_1).f1))))) + a5)), .int .i64 (wrap64 ((wrap64 ((wrap64 (a3 * ((rd_impl_Peg l0 x22_1).f0))) + (wrap64 (a4 * ((rd_impl_Peg l0 x22_1).f1))))) + a6))] 26 (0, 0)) (gQ BK168) k_ hk⟩)); (case aO => exact (by (with_reducible repeat (first | apply rA | apply rN | apply rD)); exact Kd.R_mono HO_16.out (fun _ hk => ⟨hk.1.2, hk.2⟩))); (case aS => exact (pZ bE)); (case aL => have := LMc13.out; omega); intro v171 w21 ho hb hg hat; rw [← Ny170.out] at ho; have n0_ := aM (blk_grown (g := gb167) (o := .cells #[.int .i64 ((rd_impl_Peg l0 x22_1).f0), .int .i64 ((rd_impl_Peg l0 x22_1).f1)] 26 (0, 0)) (gQ BK167) hg (Kd.R_away HO_16.out (fun _ hk => hk.1.2))); have n1_ := aM (blk_grown (g := gb168) (o := .cells #[.int .i64 (wrap64 ((wrap64 ((wrap64 (a1 * ((rd_impl_Peg l0 x22_1).f0))) + (wrap64 (a2 * ((rd_impl_Peg l0 x22_1).f1))))) + a5)), .int .i64 (wrap64 ((wrap64 ((wrap64 (a3 * ((rd_impl_Peg l0 x22_1).f0))) + (wrap64 (a4 * ((rd_impl_Peg l0 x22_1).f1))))) + a6))] 26 (0, 0)) (gQ BK168) hg (Kd.R_away HO_16.out (fun _ hk => hk.2))); have n2_ := aM (hb); have n3_ := aM (ho); clear BK167; clear BK168; clear HB; clear HO_16; have BK167 := n0_; have BK168 := n1_; have HB := n2_; have HO172 := n3_; clear n0_ n1_ n2_ n3_; clear ho hb hg hat))
     go_roundg k1
     case measure => have := HK1.out; omega
     case rel => exact ⟨(y170), (wrap64 (x22_1 + 1)), eQ, H', ⟨by have := HK1.out; omega⟩, ⟨by (with_reducible repeat (first | apply rA | apply rN | apply rD)); exact Kd.R_mono HO172.out (fun _ hk => trivial)⟩, ⟨bE⟩⟩
    ·replace c12 := Bool.eq_false_iff.mpr c12; subst c12; replace H := iF H
     simp only [Option.some.injEq, Prod.mk.injEq] at H
     obtain ⟨rfl, rfl⟩ := H; have p166 : 0 ≤ (x22_1 : Int) := dT aQ; have q166 : x22_1 < (l0.length : Int) := dT aQ; obtain ⟨ad166, e166, hx166_0, hx166_1⟩ := at_impl_Peg HR0.out x22_1 p166 q166
     cases e166
     replace hx166_0 := hC HB hx166_0; replace hx166_1 := hC HB hx166_1; replace p166 := eq_true p166; replace q166 := eq_true q166
     go_wp2_with (first | ((with_reducible refine gate_dst (N := 18) rfl ?_); refine bV 18 (cs := #[.int .i64 0, .int .i64 0]) (t := 26) rfl rfl (by first | (go_simp; done) | (go_simp; rfl)) ?_; intro gb167 hg w22 hbox hb; have BK167 := hbox; have GW167 := gZ HB hg; have GE167 := gZ HB hg; replace HO_16 := aM (Kd.R_below (Kd.R_elderB (by (with_reducible repeat (first | apply rA | apply rN | apply rD)); exact HO_16.out) gb167 (Nat.le_of_eq hg.symm)) hb); replace HB := tB HB hb; clear hb hbox hg; have hcz23_0 := vZ0 BK167; have hcz23_1 := vZ1 BK167; have hfz23_0 := kF BK167.out 0; have hfz23_1 := kF BK167.out 1) | ((with_reducible refine gate_dst (N := 19) rfl ?_); refine bV 19 (cs := #[.int .i64 0, .int .i64 0]) (t := 26) rfl rfl (by first | (go_simp; done) | (go_simp; rfl)) ?_; intro gb168 hg w24 hbox hb; have BK168 := hbox; have GW168 := gZ HB hg; have GE168 := gZ HB hg; have NB167_168 := aM ((by rw [hg]; exact nN (blk_lt (g := gb167) (o := .cells #[.int .i64 ((rd_impl_Peg l0 x22_1).f0), .int .i64 ((rd_impl_Peg l0 x22_1).f1)] 26 (0, 0)) (fQ BK167)) : gb167 ≠ gb168)); have NB168_167 := aM ((by rw [hg]; exact Nat.ne_of_gt (blk_lt (g := gb167) (o := .cells #[.int .i64 ((rd_impl_Peg l0 x22_1).f0), .int .i64 ((rd_impl_Peg l0 x22_1).f1)] 26 (0, 0)) (fQ BK167)) : gb168 ≠ gb167)); replace HO_16 := aM (Kd.R_below (Kd.R_elderB (by (with_reducible repeat (first | apply rA | apply rN | apply rD)); exact (Kd.R_mono (Kd.R_far (p := ⟨gb167, 1, none⟩) (Kd.R_far (p := ⟨gb167, 0, none⟩) (Kd.R_mono HO_16.out (fun k_ hk => (⟨hk, hk.2⟩ : _ ∧ k_ ≠ gb167))) (fun _ hk => hk.2) (.int .i64 ((rd_impl_Peg l0 x22_1).f0))) (fun _ hk => hk.2) (.int .i64 ((rd_impl_Peg l0 x22_1).f1))) (fun _ h_ => h_.1))) gb168 (Nat.le_of_eq hg.symm)) hb); replace BK167 := aM (blk_below (g := gb167) (o := .cells #[.int .i64 ((rd_impl_Peg l0 x22_1).f0), .int .i64 ((rd_impl_Peg l0 x22_1).f1)] 26 (0, 0)) (fQ BK167) hb); replace HB := tB HB hb; clear hb hbox hg; have hnb25 := NB168_167.out; have hnc25 := NB167_168.out; have hcz26_0 := vZ0 BK168; have hcz26_1 := vZ1 BK168; have hfz26_0 := kF BK168.out 0; have hfz26_1 := kF BK168.out 1) | ((with_reducible refine gC (f := 57) rfl ?_); refine goesL_ (some 50) rfl rfl Try.func57 kR rfl #[.agg #[.int .i64 (wrap64 ((wrap64 ((wrap64 (a1 * ((rd_impl_Peg l0 x22_1).f0))) + (wrap64 (a2 * ((rd_impl_Peg l0 x22_1).f1))))) + a5)), .int .i64 (wrap64 ((wrap64 ((wrap64 (a3 * ((rd_impl_Peg l0 x22_1).f0))) + (wrap64 (a4 * ((rd_impl_Peg l0 x22_1).f1))))) + a6))]] rfl sQ ?_; (with_reducible refine (spec_pgIs.calls (wrap64 ((wrap64 ((wrap64 (a1 * ((rd_impl_Peg l0 x22_1).f0))) + (wrap64 (a2 * ((rd_impl_Peg l0 x22_1).f1))))) + a5)) (wrap64 ((wrap64 ((wrap64 (a3 * ((rd_impl_Peg l0 x22_1).f0))) + (wrap64 (a4 * ((rd_impl_Peg l0 x22_1).f1))))) + a6)) false _ A11.out).mono ?_); rintro e w27 ⟨rfl, hb⟩; refine ⟨_, rfl, ?_⟩; replace HO_16 := aM (Kd.R_below (by (with_reducible repeat (first | apply rA | apply rN | apply rD)); exact (Kd.R_mono (Kd.R_far (p := ⟨gb168, 1, none⟩) (Kd.R_far (p := ⟨gb168, 0, none⟩) (Kd.R_mono HO_16.out (fun k_ hk => (⟨hk, hk.2⟩ : _ ∧ k_ ≠ gb168))) (fun _ hk => hk.2) (.int .i64 (wrap64 ((wrap64 ((wrap64 (a1 * ((rd_impl_Peg l0 x22_1).f0))) + (wrap64 (a2 * ((rd_impl_Peg l0 x22_1).f1))))) + a5)))) (fun _ hk => hk.2) (.int .i64 (wrap64 ((wrap64 ((wrap64 (a3 * ((rd_impl_Peg l0 x22_1).f0))) + (wrap64 (a4 * ((rd_impl_Peg l0 x22_1).f1))))) + a6)))) (fun _ h_ => h_.1))) hb); replace BK167 := aM (blk_below (g := gb167) (o := .cells #[.int .i64 ((rd_impl_Peg l0 x22_1).f0), .int .i64 ((rd_impl_Peg l0 x22_1).f1)] 26 (0, 0)) (fQ BK167) hb); replace BK168 := aM (blk_below (g := gb168) (o := .cells #[.int .i64 (wrap64 ((wrap64 ((wrap64 (a1 * ((rd_impl_Peg l0 x22_1).f0))) + (wrap64 (a2 * ((rd_impl_Peg l0 x22_1).f1))))) + a5)), .int .i64 (wrap64 ((wrap64 ((wrap64 (a3 * ((rd_impl_Peg l0 x22_1).f0))) + (wrap64 (a4 * ((rd_impl_Peg l0 x22_1).f1))))) + a6))] 26 (0, 0)) (fQ BK168) hb); replace HB := tB HB hb; (try clear hb); (try clear hb2); (try clear hk); (try clear hi)))
     go_ret2
     exact ⟨_, by first | rfl | (simp [errW_none, errW_some] <;> rfl) | (simp [*, errW_none, errW_some] <;> rfl), by first | exact Kd.R_nil _ _ _ _ _ | exact Kd.N_nil _ _ _ _ _ | exact Kd.V_nil _ _ _ _ _ | exact Kd.Q_nil _ _ _ _ _ | exact Kd.S_nil _ _ _ _ _, bE⟩
   ·rw [if_neg c8] at H; have c8b0 := decide_eq_false c8; clear c8
    simp only [Option.some.injEq, Prod.mk.injEq] at H
    obtain ⟨rfl, rfl⟩ := H; go_wp2
    go_ret2
    exact ⟨_, by first | rfl | (simp [errW_none, errW_some] <;> rfl) | (simp [*, errW_none, errW_some] <;> rfl), by (with_reducible repeat (first | apply rA | apply rN | apply rD)); exact HO_16.out, bQ⟩

def spec_GrowThree.f (k : Nat) (l0 : List (S_impl_Peg)) (a1 : Int) : Option ((List (S_impl_Peg)) × Bool) := (spec_trThree.f k l0).bind fun t173 => (if t173 = true then ((spec_l1In.f a1 1 20).bind fun t174 => (if t174 = true then (if 0 < (l0.length : Int) then ((spec_pgMap.f k l0 a1 0 0 a1 (wrap64 ((wrap64 (1 - a1)) * ((rd_impl_Peg l0 0).f0))) (wrap64 ((wrap64 (1 - a1)) * ((rd_impl_Peg l0 0).f1)))).bind fun bt177 => (some (bt177.1, bt177.2))) else (none)) else (some (([] : List (S_impl_Peg)), false)))) else (some (([] : List (S_impl_Peg)), false)))
theorem spec_GrowThree.mono : ∀ a0 a1 k, LeO (spec_GrowThree.f k a0 a1) (spec_GrowThree.f (k + 1) a0 a1) := by
 intro a0 a1 k
 unfold spec_GrowThree.f
 repeat' first | (with_reducible exact spec_pgMap.mono _ _ _ _ _ _ _ _) | (with_reducible exact spec_trThree.mono _ _) | (with_reducible exact LeO.refl _) | (with_reducible exact LeO.none _) | (with_reducible refine LeO.ite ?_ ?_) | (with_reducible refine LeO.bind ?_ (fun _ => ?_)) | exact spec_pgMap.mono _ _ _ _ _ _ _ _ | exact spec_trThree.mono _ _ | exact LeO.none _ | refine LeO.ite ?_ ?_ | refine LeO.bind ?_ (fun _ => ?_)
def spec_GrowThree.T3 : Bool × List (List Nat × List Nat) := (true, [([], []), ([], []), ([], []), ([], []), ([3], [3]), ([], []), ([5], [5]), ([6], [6]), ([7], [7]), ([4, 8], [4, 8]), ([], []), ([10], [10]), ([], []), ([12], [12]), ([13], [13]), ([14], [14]), ([11, 15], [11, 15]), ([0, 1, 2, 9, 16], [0, 1, 2, 9, 16]), ([17], [17]), ([17], [17]), ([18, 17, 0, 1, 2, 3, 4, 5, 6, 7, 8, 9, 10, 11, 12, 13, 14, 15, 16, 17, 18, 19], [18]), ([19, 20, 0, 1, 2, 3, 4, 5, 6, 7, 8, 9, 10, 11, 12, 13, 14, 15, 16, 17, 18, 19, 20], [19])])
def spec_GrowThree.B3 : List Nat := [0, 0, 0, 0, 8, 0, 32, 96, 224, 504, 0, 1024, 0, 4096, 12288, 28672, 64512, 131071, 262143, 262143, 1048575, 2097151]
theorem spec_GrowThree.tab3 : rtab .any (opsOf Try.f36 3) = spec_GrowThree.T3 := by kernel_rfl
theorem spec_GrowThree.bits3 : waitsOk spec_GrowThree.T3.2 spec_GrowThree.B3 = true := by kernel_rfl
set_option maxHeartbeats 8000000 in
set_option maxRecDepth 100000 in
theorem spec_GrowThree.calls (k : Nat) (A0 : Option Addr) (c0 : Nat) (l0 : List (S_impl_Peg)) (a1 : Int) (r1 : List (S_impl_Peg)) (r2 : Bool) (w : World) (hr0 : Kd.C kd_impl_Peg w A0 l0.length l0) (hc0 : l0.length ≤ c0) (h : spec_GrowThree.f k l0 a1 = some (r1, r2)) :
  Calls Try.prog 36 #[.slice A0 l0.length c0, .int .i64 a1] w fun e w' => ∃ v0_ : Value, e = .returned (.tuple #[v0_, .bool r2]) ∧ Kd.R kd_impl_Peg 26 w' w.heap.size (fun _ => True) v0_ r1 ∧ Below w.heap.size w w' := by
 have HR0 := aM hr0; have HC0 := aM hc0; clear hr0 hc0; have HB := aM (Below.refl w.heap.size w)
 unfold spec_GrowThree.f at h; have H := h; clear h
 replace H := bS H; obtain ⟨t173, A3, H⟩ := H
 by_cases c4 : t173 = true
 ·subst c4; replace H := iT H; replace H := bS H; obtain ⟨t174, A5, H⟩ := H
  by_cases c6 : t174 = true
  ·subst c6; replace H := iT H; replace H := iN H; obtain ⟨c7, H⟩ := H; have c7b0 := dE c7; have c7b1 : decide (0 < l0.length) = true := dE (by omega)
   clear c7; replace H := bS H; obtain ⟨⟨t177, t178⟩, A8, H⟩ := H
   simp only [Option.some.injEq, Prod.mk.injEq] at H
   obtain ⟨rfl, rfl⟩ := H
   go_enter Try.func36, Try.ntmps36
   try go_wp2_with (first | ((with_reducible refine gC (f := 54) rfl ?_); refine goesL_ (some 7) rfl rfl Try.func54 kR rfl #[.slice A0 l0.length c0] rfl sQ ?_; (with_reducible refine (spec_trThree.calls k _ _ l0 true _ ?side1 ?side2 A3.out).mono ?_); (case side1 => repeat (first | exact HR0.out | (with_reducible refine cA ?_ _) | (with_reducible refine cN ?_ _) | (with_reducible refine cD ?_))); (case side2 => exact HC0.out); rintro e w9 ⟨rfl, hb⟩; refine ⟨_, rfl, ?_⟩; replace HB := tB HB hb; (try clear hb); (try clear hb2); (try clear hk); (try clear hi)) | (go_at_call 79; (with_reducible refine (spec_l1In.calls a1 1 20 true _ A5.out).mono ?_); rintro e w' ⟨rfl, ⟨nd, rfl⟩⟩))
   (try (rw [drewN_self w9]; generalize hq_ : World.drewN w9 _ = w9; have n0_ : Aside0 (Below w.heap.size w w9) := ⟨by rw [← hq_]; exact bQ⟩; clear HB hq_; have HB := n0_; clear n0_))
   replace HB := aM (pD HB.out); have p175 : 0 ≤ (0 : Int) := (by omega)
   have q175 : 0 < (l0.length : Int) := dT aQ; obtain ⟨ad175, e175, hx175_0, hx175_1⟩ := at_impl_Peg HR0.out 0 p175 q175; have hw175_1 := hx175_1
   (try rw [show ((0 : Int)).toNat = 0 from rfl] at hw175_1)
   (try rw [show 0 * 2 = 0 from rfl] at hw175_1)
   (try rw [Addr.add_zero'] at hw175_1)
   have hw175_0 := hx175_0
   (try rw [show ((0 : Int)).toNat = 0 from rfl] at hw175_0)
   (try rw [show 0 * 2 = 0 from rfl] at hw175_0)
   (try rw [Addr.add_zero'] at hw175_0)
   cases e175
   have qi175 : (0 < l0.length) = True := eq_true (by omega)
   (try rw [show ((0 : Int)).toNat = 0 from rfl] at hx175_0)
   (try rw [show 0 * 2 = 0 from rfl] at hx175_0)
   (try rw [Addr.add_zero'] at hx175_0)
   (try rw [show ((0 : Int)).toNat = 0 from rfl] at hx175_1)
   (try rw [show 0 * 2 = 0 from rfl] at hx175_1)
   (try rw [Addr.add_zero'] at hx175_1)
   replace hx175_0 := hC HB hx175_0; replace hx175_1 := hC HB hx175_1; replace p175 := eq_true p175; replace q175 := eq_true q175; have p176 : 0 ≤ (0 : Int) := (by omega)
   have q176 : 0 < (l0.length : Int) := dT aQ; obtain ⟨ad176, e176, hx176_0, hx176_1⟩ := at_impl_Peg HR0.out 0 p176 q176; have hw176_1 := hx176_1
   (try rw [show ((0 : Int)).toNat = 0 from rfl] at hw176_1)
   (try rw [show 0 * 2 = 0 from rfl] at hw176_1)
   (try rw [Addr.add_zero'] at hw176_1)
   have hw176_0 := hx176_0
   (try rw [show ((0 : Int)).toNat = 0 from rfl] at hw176_0)
   (try rw [show 0 * 2 = 0 from rfl] at hw176_0)
   (try rw [Addr.add_zero'] at hw176_0)
   obtain rfl : ad175 = ad176 := (by injection e176)
   have qi176 : (0 < l0.length) = True := eq_true (by omega)
   (try rw [show ((0 : Int)).toNat = 0 from rfl] at hx176_0)
   (try rw [show 0 * 2 = 0 from rfl] at hx176_0)
   (try rw [Addr.add_zero'] at hx176_0)
   (try rw [show ((0 : Int)).toNat = 0 from rfl] at hx176_1)
   (try rw [show 0 * 2 = 0 from rfl] at hx176_1)
   (try rw [Addr.add_zero'] at hx176_1)
   replace hx176_0 := hC HB hx176_0; replace hx176_1 := hC HB hx176_1; replace p176 := eq_true p176; replace q176 := eq_true q176
   refine start_ (n := 22) (S := fun w' => w'.cell? ad175 = some (.int .i64 ((rd_impl_Peg l0 0).f0)) ∧ w'.cell? ⟨ad175.block, ad175.off + 1, none⟩ = some (.int .i64 ((rd_impl_Peg l0 0).f1)) ∧ w'.cell? ad175 = some (.int .i64 ((rd_impl_Peg l0 0).f0)) ∧ w'.cell? ⟨ad175.block, ad175.off + 1, none⟩ = some (.int .i64 ((rd_impl_Peg l0 0).f1))) (ds := []) (bA 22 0) kR rfl kR ⟨(hC HB hw175_0 :), (hC HB hw175_1 :), (hC HB hw176_0 :), (hC HB hw176_1 :)⟩ (fun hHeld => ?_); refine with_tabW spec_GrowThree.tab3 spec_GrowThree.bits3 (fun HT_ HW_ => ?_)
   generalize w9.drew = w10 at HB hx175_0 hx175_1 hx176_0 hx176_1 hHeld ⊢
   refine pU 0 14 (bA 22 1) HT_ ?_; refine pU 1 15 (bA 22 3) HT_ ?_; refine pU 2 16 (bA 22 7) HT_ ?_; refine pU 3 17 (bA 22 15) HT_ ?_; refine pU 4 18 (bA 22 31) HT_ ?_; refine pU 5 19 (bA 22 63) HT_ ?_; refine pU 6 20 (bA 22 127) HT_ ?_; refine pU 7 21 (bA 22 255) HT_ ?_; refine pU 10 24 (bA 22 1279) HT_ ?_; refine pU 11 25 (bA 22 3327) HT_ ?_; refine pU 12 26 (bA 22 7423) HT_ ?_; refine pU 13 27 (bA 22 15615) HT_ ?_; refine pU 14 28 (bA 22 31999) HT_ ?_
   refine tU 8 22 (bA 22 32255) HT_ HW_ hHeld ?_ (hy := Or.inl ⟨by rfl, by rintro w' ⟨s0, s1, s2, s3⟩; go_simp; with_reducible rfl⟩)
   refine pU 9 23 (bA 22 32767) HT_ ?_
   refine tU 15 29 (bA 22 65535) HT_ HW_ hHeld ?_ (hy := Or.inl ⟨by rfl, by rintro w' ⟨s0, s1, s2, s3⟩; go_simp; with_reducible rfl⟩)
   refine pU 16 30 (bA 22 131071) HT_ ?_
   refine oU 17 31 (bA 22 262143) HT_ (fun K hK => ?_)
   refine goes_ Try.func80 kR rfl #[.slice (some ad175) l0.length c0, .int .i64 a1, .int .i64 0, .int .i64 0, .int .i64 a1, .int .i64 (wrap64 ((wrap64 (1 - a1)) * ((rd_impl_Peg l0 0).f0))), .int .i64 (wrap64 ((wrap64 (1 - a1)) * ((rd_impl_Peg l0 0).f1)))] (by rfl) rfl rfl sQ ?_
   with_reducible refine (spec_pgMap.calls k _ _ l0 a1 0 0 a1 (wrap64 ((wrap64 (1 - a1)) * ((rd_impl_Peg l0 0).f0))) (wrap64 ((wrap64 (1 - a1)) * ((rd_impl_Peg l0 0).f1))) t177 t178 _ ?side1 ?side2 A8.out).mono ?_
   (case side1 => repeat (first | exact (Kd.C_below HR0.out HB.out) | (with_reducible refine cA ?_ _) | (with_reducible refine cN ?_ _) | (with_reducible refine cD ?_)))
   (case side2 => exact HC0.out)
   rintro e w11 ⟨v179, rfl, ho0, hb⟩; refine ⟨_, rfl, ?_⟩; have HO180 := aM (Kd.R_lower ho0 (pZ bQ)); replace HB := tB HB hb; (try clear hb); (try clear hb2); (try clear hk); (try clear hi); (try clear ho0)
   refine hK.out _ _ ⟨(hC HB hw175_0 :), (hC HB hw175_1 :), (hC HB hw176_0 :), (hC HB hw176_1 :)⟩ (fun hHeld => ?_)
   clear hK K
   refine nU ?_
   refine pU 18 32 (bA 22 524287) HT_ ?_; refine pU 19 33 (bA 22 1048575) HT_ ?_; refine pU 20 4 (bA 22 2097151) HT_ ?_; refine pU 21 5 (bA 22 4194303) HT_ ?_
   refine done_ (done_of HT_.out kR) ?_
   try go_wp2
   go_ret2
   exact ⟨_, by first | rfl | (simp [errW_none, errW_some] <;> rfl) | (simp [*, errW_none, errW_some] <;> rfl), by (with_reducible repeat (first | apply rA | apply rN | apply rD)); exact HO180.out, bQ⟩
  ·replace c6 := Bool.eq_false_iff.mpr c6; subst c6; replace H := iF H
   simp only [Option.some.injEq, Prod.mk.injEq] at H
   obtain ⟨rfl, rfl⟩ := H
   go_enter Try.func36, Try.ntmps36
   go_wp2_with (first | ((with_reducible refine gC (f := 54) rfl ?_); refine goesL_ (some 7) rfl rfl Try.func54 kR rfl #[.slice A0 l0.length c0] rfl sQ ?_; (with_reducible refine (spec_trThree.calls k _ _ l0 true _ ?side1 ?side2 A3.out).mono ?_); (case side1 => repeat (first | exact HR0.out | (with_reducible refine cA ?_ _) | (with_reducible refine cN ?_ _) | (with_reducible refine cD ?_))); (case side2 => exact HC0.out); rintro e w12 ⟨rfl, hb⟩; refine ⟨_, rfl, ?_⟩; replace HB := tB HB hb; (try clear hb); (try clear hb2); (try clear hk); (try clear hi)) | (go_at_call 79; (with_reducible refine (spec_l1In.calls a1 1 20 false _ A5.out).mono ?_); rintro e w' ⟨rfl, ⟨nd, rfl⟩⟩))
   go_ret2
   exact ⟨_, by first | rfl | (simp [errW_none, errW_some] <;> rfl) | (simp [*, errW_none, errW_some] <;> rfl), by first | exact Kd.R_nil _ _ _ _ _ | exact Kd.N_nil _ _ _ _ _ | exact Kd.V_nil _ _ _ _ _ | exact Kd.Q_nil _ _ _ _ _ | exact Kd.S_nil _ _ _ _ _, bQ⟩
 ·replace c4 := Bool.eq_false_iff.mpr c4; subst c4; replace H := iF H
  simp only [Option.some.injEq, Prod.mk.injEq] at H
  obtain ⟨rfl, rfl⟩ := H
  go_enter Try.func36, Try.ntmps36
  go_wp2_with (first | ((with_reducible refine gC (f := 54) rfl ?_); refine goesL_ (some 7) rfl rfl Try.func54 kR rfl #[.slice A0 l0.length c0] rfl sQ ?_; (with_reducible refine (spec_trThree.calls k _ _ l0 false _ ?side1 ?side2 A3.out).mono ?_); (case side1 => repeat (first | exact HR0.out | (with_reducible refine cA ?_ _) | (with_reducible refine cN ?_ _) | (with_reducible refine cD ?_))); (case side2 => exact HC0.out); rintro e w13 ⟨rfl, hb⟩; refine ⟨_, rfl, ?_⟩; replace HB := tB HB hb; (try clear hb); (try clear hb2); (try clear hk); (try clear hi)))
  go_ret2
  exact ⟨_, by first | rfl | (simp [errW_none, errW_some] <;> rfl) | (simp [*, errW_none, errW_some] <;> rfl), by first | exact Kd.R_nil _ _ _ _ _ | exact Kd.N_nil _ _ _ _ _ | exact Kd.V_nil _ _ _ _ _ | exact Kd.Q_nil _ _ _ _ _ | exact Kd.S_nil _ _ _ _ _, bQ⟩

def impl_within.f (a0 : Int) (a1 : Int) (a2 : Int) : Option (Bool) := if a0 ≥ a1 then (some (decide (a0 ≤ a2))) else (some false)
set_option maxHeartbeats 8000000 in
set_option maxRecDepth 100000 in
theorem impl_within.calls (a0 : Int) (a1 : Int) (a2 : Int) (r : Bool) (w : World) (h : impl_within.f a0 a1 a2 = some r) :
  Calls Try.prog 59 #[.int .i64 a0, .int .i64 a1, .int .i64 a2] w fun e w' => e = .returned (.bool r) ∧ Drawn0 w w' := by
 unfold impl_within.f at h; have H := h; clear h
 by_cases c4 : a0 ≥ a1
 ·rw [if_pos c4] at H; have c4b0 := dE c4; clear c4; obtain rfl := Option.some.inj H
  go_enter Try.func59, Try.ntmps59
  go_wp2
  go_ret
  exact ⟨eQ, dQ⟩
 ·rw [if_neg c4] at H; have c4b0 := decide_eq_false c4; clear c4; obtain rfl := Option.some.inj H
  go_enter Try.func59, Try.ntmps59
  go_wp2
  go_ret
  exact ⟨eQ, dQ⟩

-- NOT PRINTED: function 139 (slices_IndexFunc_impl_Peg)

-- NOT PRINTED: function 121 (slices_ContainsFunc_impl_Peg)

def impl_IsPeg.f (a0_0 : Int) (a0_1 : Int) : Option (Bool) := (impl_within.f a0_0 (-40) 40).bind fun t182 => (if t182 = true then ((impl_within.f a0_1 (-40) 40).bind fun t183 => (some t183)) else (some false))
set_option maxHeartbeats 8000000 in
set_option maxRecDepth 100000 in
theorem impl_IsPeg.calls (a0_0 : Int) (a0_1 : Int) (r : Bool) (w : World) (h : impl_IsPeg.f a0_0 a0_1 = some r) :
  Calls Try.prog 62 #[.agg #[.int .i64 a0_0, .int .i64 a0_1]] w fun e w' => e = .returned (.bool r) ∧ Below w.heap.size w w' := by
 have hu26 := Try.underlying26; have HB := aM (Below.refl w.heap.size w)
 unfold impl_IsPeg.f at h; have H := h; clear h
 replace H := bS H; obtain ⟨t182, A2, H⟩ := H
 by_cases c3 : t182 = true
 ·subst c3; replace H := iT H; replace H := bS H; obtain ⟨t183, A4, H⟩ := H; obtain rfl := Option.some.inj H
  go_enter Try.func62, Try.ntmps62
  go_wp2_with (first | ((with_reducible refine gate_dst (N := 1) rfl ?_); refine bV 1 (cs := #[.int .i64 a0_0, .int .i64 a0_1]) (t := 26) rfl rfl (by first | (go_simp; done) | (go_simp; rfl)) ?_; intro gb181 hg w5 hbox hb; have BK181 := hbox; have GW181 := gZ HB hg; have GE181 := gZ HB hg; replace HB := tB HB hb; clear hb hbox hg; have hcz6_0 := vZ0 BK181; have hcz6_1 := vZ1 BK181; have hfz6_0 := kF BK181.out 0; have hfz6_1 := kF BK181.out 1) | ((with_reducible refine gC (f := 59) rfl ?_); refine goesL_ (some 5) rfl rfl Try.func59 kR rfl #[.int .i64 a0_0, .int .i64 (-40), .int .i64 40] rfl sQ ?_; (with_reducible refine (impl_within.calls a0_0 (-40) 40 true _ A2.out).mono ?_); rintro e w' ⟨rfl, ⟨nd, rfl⟩⟩; refine ⟨_, rfl, ?_⟩) | (go_at_call 59; (with_reducible refine (impl_within.calls a0_1 (-40) 40 t183 _ A4.out).mono ?_); rintro e w' ⟨rfl, ⟨nd, rfl⟩⟩))
  go_ret
  exact ⟨wQ, bE⟩
 ·replace c3 := Bool.eq_false_iff.mpr c3; subst c3; replace H := iF H; obtain rfl := Option.some.inj H
  go_enter Try.func62, Try.ntmps62
  go_wp2_with (first | ((with_reducible refine gate_dst (N := 1) rfl ?_); refine bV 1 (cs := #[.int .i64 a0_0, .int .i64 a0_1]) (t := 26) rfl rfl (by first | (go_simp; done) | (go_simp; rfl)) ?_; intro gb181 hg w7 hbox hb; have BK181 := hbox; have GW181 := gZ HB hg; have GE181 := gZ HB hg; replace HB := tB HB hb; clear hb hbox hg; have hcz8_0 := vZ0 BK181; have hcz8_1 := vZ1 BK181; have hfz8_0 := kF BK181.out 0; have hfz8_1 := kF BK181.out 1) | ((with_reducible refine gC (f := 59) rfl ?_); refine goesL_ (some 5) rfl rfl Try.func59 kR rfl #[.int .i64 a0_0, .int .i64 (-40), .int .i64 40] rfl sQ ?_; (with_reducible refine (impl_within.calls a0_0 (-40) 40 false _ A2.out).mono ?_); rintro e w' ⟨rfl, ⟨nd, rfl⟩⟩; refine ⟨_, rfl, ?_⟩))
  go_ret
  exact ⟨wQ, bE⟩

def impl_arePegs_1.f (a0_0 : Int) (a0_1 : Int) : Option (Bool) := (impl_IsPeg.f a0_0 a0_1).bind fun t185 => (some (!t185))
set_option maxHeartbeats 8000000 in
set_option maxRecDepth 100000 in
theorem impl_arePegs_1.calls (a0_0 : Int) (a0_1 : Int) (r : Bool) (w : World) (h : impl_arePegs_1.f a0_0 a0_1 = some r) :
  Calls Try.prog 122 #[.agg #[.int .i64 a0_0, .int .i64 a0_1]] w fun e w' => e = .returned (.bool r) ∧ Below w.heap.size w w' := by
 have hu26 := Try.underlying26; have HB := aM (Below.refl w.heap.size w)
 unfold impl_arePegs_1.f at h; have H := h; clear h
 replace H := bS H; obtain ⟨t185, A2, H⟩ := H; obtain rfl := Option.some.inj H
 go_enter Try.func122, Try.ntmps122
 go_wp2_with (first | ((with_reducible refine gate_dst (N := 1) rfl ?_); refine bV 1 (cs := #[.int .i64 a0_0, .int .i64 a0_1]) (t := 26) rfl rfl (by first | (go_simp; done) | (go_simp; rfl)) ?_; intro gb184 hg w3 hbox hb; have BK184 := hbox; have GW184 := gZ HB hg; have GE184 := gZ HB hg; replace HB := tB HB hb; clear hb hbox hg; have hcz4_0 := vZ0 BK184; have hcz4_1 := vZ1 BK184; have hfz4_0 := kF BK184.out 0; have hfz4_1 := kF BK184.out 1) | ((with_reducible refine gC (f := 62) rfl ?_); refine goesL_ (some 4) rfl rfl Try.func62 kR rfl #[.agg #[.int .i64 a0_0, .int .i64 a0_1]] rfl sQ ?_; (with_reducible refine (impl_IsPeg.calls a0_0 a0_1 t185 _ A2.out).mono ?_); rintro e w5 ⟨rfl, hb⟩; refine ⟨_, rfl, ?_⟩; replace BK184 := bB BK184 hb; replace HB := tB HB hb; (try clear hb); (try clear hb2); (try clear hk); (try clear hi)))
 go_ret
 exact ⟨wQ, bE⟩

end Go.Proofs.Ytklhakfmegbobaa.X
