-- thin
-- short
import Derived.Test.YtiacfkilmknldaaXA
import Derived.Test.YtiacfkilmknldaaX0
import Derived.Test.YtiacfkilmknldaaX2
import Derived.Test.YtiacfkilmknldaaX4
import Derived.Test.YtiacfkilmknldaaX7
import Derived.Test.YtiacfkilmknldaaX10
namespace Go.Proofs.Ytiacfkilmknldaa.X
open Go.RowKit Go.Proofs.Ytiacfkilmknldaa.XW Go.Proofs.YtiacfkilmknldaaW.PrintWords Go.Proofs.YtiacfkilmknldaaW.PrintLast Go.Proofs.YtiacfkilmknldaaW.PrintMore
attribute [local go_sem] max2_int min2_int max_two min_two max_three min_three max_four min_four   -- for this text's walks alone
set_option linter.unusedVariables false
set_option linter.unusedSimpArgs false

def spec_pgMap.l0 : Nat → Int → Int → Int → Int → Int → Int → List (S_impl_Peg) → List (S_impl_Peg) → Int → Int → Option ((List (S_impl_Peg)) × Bool)
 | 0, _, _, _, _, _, _, _, _, _, _ => none
 | k + 1, x1, x2, x3, x4, x5, x6, x16, x20, x21, x22 => if x22 < x21 then (if 0 ≤ x22 then (if x22 < (x20.length : Int) then ((spec_pgIs.f (wrap64 ((wrap64 ((wrap64 (x1 * ((rd_impl_Peg x20 x22).f0))) + (wrap64 (x2 * ((rd_impl_Peg x20 x22).f1))))) + x5)) (wrap64 ((wrap64 ((wrap64 (x3 * ((rd_impl_Peg x20 x22).f0))) + (wrap64 (x4 * ((rd_impl_Peg x20 x22).f1))))) + x6))).bind fun t428 => (if t428 = true then (if x16.length < 8796093022208 then (spec_pgMap.l0 k x1 x2 x3 x4 x5 x6 (x16 ++ [(⟨wrap64 ((wrap64 ((wrap64 (x1 * ((rd_impl_Peg x20 x22).f0))) + (wrap64 (x2 * ((rd_impl_Peg x20 x22).f1))))) + x5), wrap64 ((wrap64 ((wrap64 (x3 * ((rd_impl_Peg x20 x22).f0))) + (wrap64 (x4 * ((rd_impl_Peg x20 x22).f1))))) + x6)⟩ : S_impl_Peg)]) x20 x21 (wrap64 (x22 + 1))) else (none)) else (some (([] : List (S_impl_Peg)), false)))) else (none)) else (none)) else (some (x16, true))
def spec_pgMap.f (k : Nat) (l0 : List (S_impl_Peg)) (a1 : Int) (a2 : Int) (a3 : Int) (a4 : Int) (a5 : Int) (a6 : Int) : Option ((List (S_impl_Peg)) × Bool) := spec_pgMap.l0 k a1 a2 a3 a4 a5 a6 ([] : List (S_impl_Peg)) l0 (l0.length : Int) 0
theorem spec_pgMap.mono_l : ∀ k, (∀ y0 y1 y2 y3 y4 y5 y6 y7 y8 y9, LeO (spec_pgMap.l0 k y0 y1 y2 y3 y4 y5 y6 y7 y8 y9) (spec_pgMap.l0 (k + 1) y0 y1 y2 y3 y4 y5 y6 y7 y8 y9))
 | 0 => fun _ _ _ _ _ _ _ _ _ _ r h => by simp [spec_pgMap.l0] at h
 | k + 1 => by
  have ih0 := spec_pgMap.mono_l k
  ·intro y0 y1 y2 y3 y4 y5 y6 y7 y8 y9
   unfold spec_pgMap.l0
   repeat' first
   | (with_reducible exact ih0 _ _ _ _ _ _ _ _ _ _)
   | (with_reducible exact LeO.refl _)
   | (with_reducible exact LeO.none _)
   | (with_reducible refine LeO.ite ?_ ?_)
   | (with_reducible refine LeO.bind ?_ (fun _ => ?_))
   | exact ih0 _ _ _ _ _ _ _ _ _ _
   | exact LeO.none _
   | refine LeO.ite ?_ ?_
   | refine LeO.bind ?_ (fun _ => ?_)
theorem spec_pgMap.mono : ∀ a0 a1 a2 a3 a4 a5 a6 k, LeO (spec_pgMap.f k a0 a1 a2 a3 a4 a5 a6) (spec_pgMap.f (k + 1) a0 a1 a2 a3 a4 a5 a6) := by
 intro a0 a1 a2 a3 a4 a5 a6 k
 have ih0 := spec_pgMap.mono_l k
 unfold spec_pgMap.f
 repeat' first
   | (with_reducible exact ih0 _ _ _ _ _ _ _ _ _ _)
   | (with_reducible exact LeO.refl _)
   | (with_reducible exact LeO.none _)
   | (with_reducible refine LeO.ite ?_ ?_)
   | (with_reducible refine LeO.bind ?_ (fun _ => ?_))
   | exact ih0 _ _ _ _ _ _ _ _ _ _
   | exact LeO.none _
   | refine LeO.ite ?_ ?_
   | refine LeO.bind ?_ (fun _ => ?_)
set_option maxHeartbeats 8000000 in
set_option maxRecDepth 100000 in
theorem spec_pgMap.calls (k : Nat) (A0 : Option Addr) (c0 : Nat) (l0 : List (S_impl_Peg)) (a1 : Int) (a2 : Int) (a3 : Int) (a4 : Int) (a5 : Int) (a6 : Int) (r1 : List (S_impl_Peg)) (r2 : Bool) (w : World) (hr0 : Kd.C kd_impl_Peg w A0 l0.length l0) (hc0 : l0.length ≤ c0) (h : spec_pgMap.f k l0 a1 a2 a3 a4 a5 a6 = some (r1, r2)) :
  Calls Try.prog 99 #[.slice A0 l0.length c0, .int .i64 a1, .int .i64 a2, .int .i64 a3, .int .i64 a4, .int .i64 a5, .int .i64 a6] w fun e w' => ∃ v0_ : Value, e = .returned (.tuple #[v0_, .bool r2]) ∧ Kd.R kd_impl_Peg 34 w' w.heap.size (fun _ => True) v0_ r1 ∧ Below w.heap.size w w' := by
 have hu34 := Try.underlying34
 have HR0 := aM hr0
 have HC0 := aM hc0
 clear hr0 hc0
 have HB := aM (Below.refl w.heap.size w)
 have H : (spec_pgMap.l0 k a1 a2 a3 a4 a5 a6 ([] : List (S_impl_Peg)) l0 (l0.length : Int) 0) = some (r1, r2) := h
 clear h
 have H' := aM H
 clear H
 go_enter Try.func99, Try.ntmps99
 go_wp2
 go_loopg [16, 22] k (fun kq v16 v22 w' => ∃ (x16_1 : List (S_impl_Peg)) (x22_1 : Int), v22 = .int .i64 x22_1 ∧ Aside0 (spec_pgMap.l0 kq a1 a2 a3 a4 a5 a6 x16_1 l0 (l0.length : Int) x22_1 = some (r1, r2)) ∧ Aside0 (kq ≤ k) ∧ Aside0 (Kd.R kd_impl_Peg 34 w' w.heap.size (fun _ => True) v16 x16_1) ∧ Aside0 (Below w.heap.size w w'))
 case atStart => exact ⟨(([] : List (S_impl_Peg))), (0), (by first | rfl | (simp; done) | (simp [*]; done)), H', ⟨Nat.le_refl _⟩, ⟨by first | exact Kd.R_nil _ _ _ _ _ | exact Kd.N_nil _ _ _ _ _ | exact Kd.V_nil _ _ _ _ _ | exact Kd.Q_nil _ _ _ _ _ | exact Kd.S_nil _ _ _ _ _⟩, ⟨by repeat (first | (with_reducible first | exact HB.out | apply pA | apply pN | apply pD) | exact HB.out)⟩⟩
 case round =>
  clear H'
  try clear p2
  obtain ⟨x16_1, x22_1, rfl, HA, HK1, HO_16, HB⟩ := hrel
  cases gk with
  | zero => exact absurd HA.out (by simp [spec_pgMap.l0])
  | succ k1 =>
   have H := HA.out
   clear HA
   simp only [spec_pgMap.l0] at H
   by_cases c8 : x22_1 < (l0.length : Int)
   ·rw [if_pos c8] at H
    have c8b0 : decide (x22_1 < (l0.length : Int)) = true := dE c8
    clear c8
    by_cases c9 : 0 ≤ x22_1
    ·rw [if_pos c9] at H
     have c9b0 : decide (0 ≤ x22_1) = true := dE c9
     clear c9
     by_cases c10 : x22_1 < (l0.length : Int)
     ·rw [if_pos c10] at H
      have c10b0 : decide (x22_1 < (l0.length : Int)) = true := dE c10
      clear c10
      replace H := oB.mp H
      obtain ⟨t428, A110, H⟩ := H
      replace H : (if t428 = true then (if x16_1.length < 8796093022208 then (spec_pgMap.l0 k1 a1 a2 a3 a4 a5 a6 (x16_1 ++ [(⟨wrap64 ((wrap64 ((wrap64 (a1 * ((rd_impl_Peg l0 x22_1).f0))) + (wrap64 (a2 * ((rd_impl_Peg l0 x22_1).f1))))) + a5), wrap64 ((wrap64 ((wrap64 (a3 * ((rd_impl_Peg l0 x22_1).f0))) + (wrap64 (a4 * ((rd_impl_Peg l0 x22_1).f1))))) + a6)⟩ : S_impl_Peg)]) l0 (l0.length : Int) (wrap64 (x22_1 + 1))) else (none)) else (some (([] : List (S_impl_Peg)), false))) = some (r1, r2) := H
      have A11 := aM A110
      clear A110
      by_cases c12 : t428 = true
      ·subst c12
       have H1 : (if x16_1.length < 8796093022208 then (spec_pgMap.l0 k1 a1 a2 a3 a4 a5 a6 (x16_1 ++ [(⟨wrap64 ((wrap64 ((wrap64 (a1 * ((rd_impl_Peg l0 x22_1).f0))) + (wrap64 (a2 * ((rd_impl_Peg l0 x22_1).f1))))) + a5), wrap64 ((wrap64 ((wrap64 (a3 * ((rd_impl_Peg l0 x22_1).f0))) + (wrap64 (a4 * ((rd_impl_Peg l0 x22_1).f1))))) + a6)⟩ : S_impl_Peg)]) l0 (l0.length : Int) (wrap64 (x22_1 + 1))) else (none)) = some (r1, r2) := by rw [if_pos rfl] at H; exact H
       clear H
       have H := H1
       clear H1
       by_cases c13 : x16_1.length < 8796093022208
       ·rw [if_pos c13] at H
        have LMc13 := aM c13
        clear c13
        obtain ⟨y429, hy429⟩ : ∃ y_ : List (S_impl_Peg), y_ = (x16_1 ++ [(⟨wrap64 ((wrap64 ((wrap64 (a1 * ((rd_impl_Peg l0 x22_1).f0))) + (wrap64 (a2 * ((rd_impl_Peg l0 x22_1).f1))))) + a5), wrap64 ((wrap64 ((wrap64 (a3 * ((rd_impl_Peg l0 x22_1).f0))) + (wrap64 (a4 * ((rd_impl_Peg l0 x22_1).f1))))) + a6)⟩ : S_impl_Peg)]) := ⟨_, rfl⟩
        replace H : (spec_pgMap.l0 k1 a1 a2 a3 a4 a5 a6 y429 l0 (l0.length : Int) (wrap64 (x22_1 + 1))) = some (r1, r2) := by first | (rw [hy429]; with_reducible exact H) | (have H2_ := (Option.bind_some _ _).symm.trans H; rw [hy429]; with_reducible exact H2_) | (have H2_ := (Option.bind_some _ _).symm.trans H; with_reducible exact H2_) | with_reducible exact H | (rw [hy429]; exact H) | exact H
        have Ny429 := aM hy429
        clear hy429
        have H' := aM H
        clear H
        have p425 : 0 ≤ (x22_1 : Int) := dT (by first | (with_reducible assumption) | assumption)
        have q425 : x22_1 < (l0.length : Int) := dT (by first | (with_reducible assumption) | assumption)
        obtain ⟨ad425, e425, hx425_0, hx425_1⟩ := at_impl_Peg HR0.out x22_1 p425 q425
        cases e425
        replace hx425_0 := (HB.out.cell (wB w _ hx425_0)).trans hx425_0
        replace hx425_1 := (HB.out.cell (wB w _ hx425_1)).trans hx425_1
        replace p425 := eq_true p425
        replace q425 := eq_true q425
        go_wp2_with (first | ((with_reducible refine gate_dst (N := 18) rfl ?_); refine box_event ?hg (N := 18) ?hd (cs := #[.int .i64 0, .int .i64 0]) (t := 34) ?hr ?_; (case hd => rfl); (case hg => rfl); (case hr => first | (go_simp; done) | (go_simp; rfl)); intro gb426 hg w14 hbox hb; have n0_ := aM (Kd.R_below (Kd.R_elderB (by (with_reducible repeat (first | apply rA | apply rN | apply rD)); exact HO_16.out) gb426 (Nat.le_of_eq hg.symm)) hb); have n1_ := aM (pT (by repeat (first | (with_reducible first | exact HB.out | apply pA | apply pN | apply pD) | exact HB.out)) hb); have n2_ := aM (hbox); have n3_ := aM ((by rw [hg]; exact (pZ (by repeat (first | (with_reducible first | exact HB.out | apply pA | apply pN | apply pD) | exact HB.out))) : w.heap.size ≤ gb426)); have n4_ := aM ((by rw [hg]; exact (pZ (by repeat (first | (with_reducible first | exact HB.out | apply pA | apply pN | apply pD) | exact HB.out))) : w.heap.size ≤ gb426)); clear HO_16; clear HB; have HO_16 := n0_; have HB := n1_; have BK426 := n2_; have GW426 := n3_; have GE426 := n4_; clear n0_ n1_ n2_ n3_ n4_; clear hb hbox hg; have hcz15_0 : w14.cell? ⟨gb426, 0, none⟩ = some (.int .i64 0) := (kC BK426.out 0).trans rfl; have hcz15_1 : w14.cell? ⟨gb426, 1, none⟩ = some (.int .i64 0) := (kC BK426.out 1).trans rfl; have hfz15_0 := kF BK426.out 0; have hfz15_1 := kF BK426.out 1) | ((with_reducible refine gate_dst (N := 19) rfl ?_); refine box_event ?hg (N := 19) ?hd (cs := #[.int .i64 0, .int .i64 0]) (t := 34) ?hr ?_; (case hd => rfl); (case hg => rfl); (case hr => first | (go_simp; done) | (go_simp; rfl)); intro gb427 hg w16 hbox hb; have n0_ := aM (Kd.R_below (Kd.R_elderB (by (with_reducible repeat (first | apply rA | apply rN | apply rD)); exact (Kd.R_mono (Kd.R_far (p := ⟨gb426, 1, none⟩) (Kd.R_far (p := ⟨gb426, 0, none⟩) (Kd.R_mono HO_16.out (fun k_ hk => (⟨hk, hk.2⟩ : _ ∧ k_ ≠ gb426))) (fun _ hk => hk.2) (.int .i64 ((rd_impl_Peg l0 x22_1).f0))) (fun _ hk => hk.2) (.int .i64 ((rd_impl_Peg l0 x22_1).f1))) (fun _ h_ => h_.1))) gb427 (Nat.le_of_eq hg.symm)) hb); have n1_ := aM (blk_below (g := gb426) (o := .cells #[.int .i64 ((rd_impl_Peg l0 x22_1).f0), .int .i64 ((rd_impl_Peg l0 x22_1).f1)] 34 (0, 0)) (by (with_reducible repeat (first | refine kN ?_ _ | refine kD ?_ | refine kA ?_ _)); refine blk_put (cs := #[.int .i64 ((rd_impl_Peg l0 x22_1).f0), .int .i64 0]) ?_ 1 _ rfl; (with_reducible repeat (first | refine kN ?_ _ | refine kD ?_ | refine kA ?_ _)); refine blk_put (cs := #[.int .i64 0, .int .i64 0]) ?_ 0 _ rfl; (with_reducible repeat (first | refine kN ?_ _ | refine kD ?_ | refine kA ?_ _)); exact BK426.out) hb); have n2_ := aM (pT (by repeat (first | (with_reducible first | exact HB.out | apply pA | apply pN | apply pD | refine pS ?_ GE426.out) | exact HB.out)) hb); have n3_ := aM (hbox); have n4_ := aM ((by rw [hg]; exact (pZ (by repeat (first | (with_reducible first | exact HB.out | apply pA | apply pN | apply pD | refine pS ?_ GE426.out) | exact HB.out))) : w.heap.size ≤ gb427)); have n5_ := aM ((by rw [hg]; exact (pZ (by repeat (first | (with_reducible first | exact HB.out | apply pA | apply pN | apply pD | refine pS ?_ GE426.out) | exact HB.out))) : w.heap.size ≤ gb427)); have n6_ := aM ((by rw [hg]; exact nN (blk_lt (g := gb426) (o := .cells #[.int .i64 ((rd_impl_Peg l0 x22_1).f0), .int .i64 ((rd_impl_Peg l0 x22_1).f1)] 34 (0, 0)) (by (with_reducible repeat (first | refine kN ?_ _ | refine kD ?_ | refine kA ?_ _)); refine blk_put (cs := #[.int .i64 ((rd_impl_Peg l0 x22_1).f0), .int .i64 0]) ?_ 1 _ rfl; (with_reducible repeat (first | refine kN ?_ _ | refine kD ?_ | refine kA ?_ _)); refine blk_put (cs := #[.int .i64 0, .int .i64 0]) ?_ 0 _ rfl; (with_reducible repeat (first | refine kN ?_ _ | refine kD ?_ | refine kA ?_ _)); exact BK426.out)) : gb426 ≠ gb427)); have n7_ := aM ((by rw [hg]; exact Nat.ne_of_gt (blk_lt (g := gb426) (o := .cells #[.int .i64 ((rd_impl_Peg l0 x22_1).f0), .int .i64 ((rd_impl_Peg l0 x22_1).f1)] 34 (0, 0)) (by (with_reducible repeat (first | refine kN ?_ _ | refine kD ?_ | refine kA ?_ _)); refine blk_put (cs := #[.int .i64 ((rd_impl_Peg l0 x22_1).f0), .int .i64 0]) ?_ 1 _ rfl; (with_reducible repeat (first | refine kN ?_ _ | refine kD ?_ | refine kA ?_ _)); refine blk_put (cs := #[.int .i64 0, .int .i64 0]) ?_ 0 _ rfl; (with_reducible repeat (first | refine kN ?_ _ | refine kD ?_ | refine kA ?_ _)); exact BK426.out)) : gb427 ≠ gb426)); clear HO_16; clear BK426; clear HB; have HO_16 := n0_; have BK426 := n1_; have HB := n2_; have BK427 := n3_; have GW427 := n4_; have GE427 := n5_; have NB426_427 := n6_; have NB427_426 := n7_; clear n0_ n1_ n2_ n3_ n4_ n5_ n6_ n7_; clear hb hbox hg; have hnb17 := NB427_426.out; have hnc17 := NB426_427.out; have hcz18_0 : w16.cell? ⟨gb427, 0, none⟩ = some (.int .i64 0) := (kC BK427.out 0).trans rfl; have hcz18_1 : w16.cell? ⟨gb427, 1, none⟩ = some (.int .i64 0) := (kC BK427.out 1).trans rfl; have hfz18_0 := kF BK427.out 0; have hfz18_1 := kF BK427.out 1) | ((with_reducible refine gC (f := 87) rfl ?_); refine goesL_ (some 50) rfl rfl Try.func87 (by kernel_rfl) rfl #[.agg #[.int .i64 (wrap64 ((wrap64 ((wrap64 (a1 * ((rd_impl_Peg l0 x22_1).f0))) + (wrap64 (a2 * ((rd_impl_Peg l0 x22_1).f1))))) + a5)), .int .i64 (wrap64 ((wrap64 ((wrap64 (a3 * ((rd_impl_Peg l0 x22_1).f0))) + (wrap64 (a4 * ((rd_impl_Peg l0 x22_1).f1))))) + a6))]] rfl (by (try simp only [mA, mC, mN]); first | done | rfl | (simp only [lD, lT]; rfl)) ?_; (with_reducible refine (spec_pgIs.calls (wrap64 ((wrap64 ((wrap64 (a1 * ((rd_impl_Peg l0 x22_1).f0))) + (wrap64 (a2 * ((rd_impl_Peg l0 x22_1).f1))))) + a5)) (wrap64 ((wrap64 ((wrap64 (a3 * ((rd_impl_Peg l0 x22_1).f0))) + (wrap64 (a4 * ((rd_impl_Peg l0 x22_1).f1))))) + a6)) true _ A11.out).mono ?_); rintro e w19 ⟨rfl, hb⟩; refine ⟨_, rfl, ?_⟩; have n0_ := aM (Kd.R_below (by (with_reducible repeat (first | apply rA | apply rN | apply rD)); exact (Kd.R_mono (Kd.R_far (p := ⟨gb427, 1, none⟩) (Kd.R_far (p := ⟨gb427, 0, none⟩) (Kd.R_mono HO_16.out (fun k_ hk => (⟨hk, hk.2⟩ : _ ∧ k_ ≠ gb427))) (fun _ hk => hk.2) (.int .i64 (wrap64 ((wrap64 ((wrap64 (a1 * ((rd_impl_Peg l0 x22_1).f0))) + (wrap64 (a2 * ((rd_impl_Peg l0 x22_1).f1))))) + a5)))) (fun _ hk => hk.2) (.int .i64 (wrap64 ((wrap64 ((wrap64 (a3 * ((rd_impl_Peg l0 x22_1).f0))) + (wrap64 (a4 * ((rd_impl_Peg l0 x22_1).f1))))) + a6)))) (fun _ h_ => h_.1))) hb); have n1_ := aM (blk_below (g := gb426) (o := .cells #[.int .i64 ((rd_impl_Peg l0 x22_1).f0), .int .i64 ((rd_impl_Peg l0 x22_1).f1)] 34 (0, 0)) (by (with_reducible repeat (first | refine kN ?_ _ | refine kD ?_ | refine kA ?_ _)); refine blk_far ?_ NB426_427.out _; (with_reducible repeat (first | refine kN ?_ _ | refine kD ?_ | refine kA ?_ _)); refine blk_far ?_ NB426_427.out _; (with_reducible repeat (first | refine kN ?_ _ | refine kD ?_ | refine kA ?_ _)); exact BK426.out) hb); have n2_ := aM (blk_below (g := gb427) (o := .cells #[.int .i64 (wrap64 ((wrap64 ((wrap64 (a1 * ((rd_impl_Peg l0 x22_1).f0))) + (wrap64 (a2 * ((rd_impl_Peg l0 x22_1).f1))))) + a5)), .int .i64 (wrap64 ((wrap64 ((wrap64 (a3 * ((rd_impl_Peg l0 x22_1).f0))) + (wrap64 (a4 * ((rd_impl_Peg l0 x22_1).f1))))) + a6))] 34 (0, 0)) (by (with_reducible repeat (first | refine kN ?_ _ | refine kD ?_ | refine kA ?_ _)); refine blk_put (cs := #[.int .i64 (wrap64 ((wrap64 ((wrap64 (a1 * ((rd_impl_Peg l0 x22_1).f0))) + (wrap64 (a2 * ((rd_impl_Peg l0 x22_1).f1))))) + a5)), .int .i64 0]) ?_ 1 _ rfl; (with_reducible repeat (first | refine kN ?_ _ | refine kD ?_ | refine kA ?_ _)); refine blk_put (cs := #[.int .i64 0, .int .i64 0]) ?_ 0 _ rfl; (with_reducible repeat (first | refine kN ?_ _ | refine kD ?_ | refine kA ?_ _)); exact BK427.out) hb); have n3_ := aM (pT (by repeat (first | (with_reducible first | exact HB.out | apply pA | apply pN | apply pD | refine pS ?_ GE426.out | refine pS ?_ GE427.out) | exact HB.out)) hb); clear HO_16; clear BK426; clear BK427; clear HB; have HO_16 := n0_; have BK426 := n1_; have BK427 := n2_; have HB := n3_; clear n0_ n1_ n2_ n3_; (try clear hb); (try clear hb2); (try clear hk); (try clear hi); have hcz20_0 : w19.cell? ⟨gb427, 0, none⟩ = some (.int .i64 (wrap64 ((wrap64 ((wrap64 (a1 * ((rd_impl_Peg l0 x22_1).f0))) + (wrap64 (a2 * ((rd_impl_Peg l0 x22_1).f1))))) + a5))) := (kC BK427.out 0).trans rfl; have hcz20_1 : w19.cell? ⟨gb427, 1, none⟩ = some (.int .i64 (wrap64 ((wrap64 ((wrap64 (a3 * ((rd_impl_Peg l0 x22_1).f0))) + (wrap64 (a4 * ((rd_impl_Peg l0 x22_1).f1))))) + a6))) := (kC BK427.out 1).trans rfl; have hfz20_0 := kF BK427.out 0; have hfz20_1 := kF BK427.out 1) | ((with_reducible refine gate_builtin (b := .append) (xs := #[.tmp 52, .tmp 54]) rfl ?_); at_builtin; refine Kd.R_append kd_impl_Peg (w0 := w) w.heap.size rfl (.tmp 52) (.tmp 54) 26 34 (.agg #[(.int .i64 0), (.int .i64 0)]) 16 rfl Try.underlying26 info34 rfl (by decide) (by omega) u16 x16_1 (⟨wrap64 ((wrap64 ((wrap64 (a1 * ((rd_impl_Peg l0 x22_1).f0))) + (wrap64 (a2 * ((rd_impl_Peg l0 x22_1).f1))))) + a5), wrap64 ((wrap64 ((wrap64 (a3 * ((rd_impl_Peg l0 x22_1).f0))) + (wrap64 (a4 * ((rd_impl_Peg l0 x22_1).f1))))) + a6)⟩ : S_impl_Peg) [.int .i64 (wrap64 ((wrap64 ((wrap64 (a1 * ((rd_impl_Peg l0 x22_1).f0))) + (wrap64 (a2 * ((rd_impl_Peg l0 x22_1).f1))))) + a5)), .int .i64 (wrap64 ((wrap64 ((wrap64 (a3 * ((rd_impl_Peg l0 x22_1).f0))) + (wrap64 (a4 * ((rd_impl_Peg l0 x22_1).f1))))) + a6))] (fun k_ => k_ ≠ gb426 ∧ k_ ≠ gb427) (fun _ => False) rfl rfl ?aP (fun _ hk => hk.elim) ?aF ?aO ?aB ?aS ?aL ?_; (case aP => exact kd_impl_Peg_mkM _ _ _ (⟨wrap64 ((wrap64 ((wrap64 (a1 * ((rd_impl_Peg l0 x22_1).f0))) + (wrap64 (a2 * ((rd_impl_Peg l0 x22_1).f1))))) + a5), wrap64 ((wrap64 ((wrap64 (a3 * ((rd_impl_Peg l0 x22_1).f0))) + (wrap64 (a4 * ((rd_impl_Peg l0 x22_1).f1))))) + a6)⟩ : S_impl_Peg)); (case aB => exact (by repeat (first | (with_reducible first | exact HB.out | apply pA | apply pN | apply pD | refine pS ?_ GE426.out | refine pS ?_ GE427.out) | exact HB.out))); (case aF => exact (fun k_ hk => ⟨Kd.freshB (g := gb426) (o := .cells #[.int .i64 ((rd_impl_Peg l0 x22_1).f0), .int .i64 ((rd_impl_Peg l0 x22_1).f1)] 34 (0, 0)) (by (with_reducible repeat (first | refine kN ?_ _ | refine kD ?_ | refine kA ?_ _)); exact BK426.out) k_ hk, Kd.freshB (g := gb427) (o := .cells #[.int .i64 (wrap64 ((wrap64 ((wrap64 (a1 * ((rd_impl_Peg l0 x22_1).f0))) + (wrap64 (a2 * ((rd_impl_Peg l0 x22_1).f1))))) + a5)), .int .i64 (wrap64 ((wrap64 ((wrap64 (a3 * ((rd_impl_Peg l0 x22_1).f0))) + (wrap64 (a4 * ((rd_impl_Peg l0 x22_1).f1))))) + a6))] 34 (0, 0)) (by (with_reducible repeat (first | refine kN ?_ _ | refine kD ?_ | refine kA ?_ _)); exact BK427.out) k_ hk⟩)); (case aO => exact (by (with_reducible repeat (first | apply rA | apply rN | apply rD)); exact Kd.R_mono HO_16.out (fun _ hk => ⟨hk.1.2, hk.2⟩))); (case aS => exact (pZ (by repeat (first | (with_reducible first | exact HB.out | apply pA | apply pN | apply pD | refine pS ?_ GE426.out | refine pS ?_ GE427.out) | exact HB.out)))); (case aL => have := LMc13.out; omega); intro v430 w21 ho hb hg hat; rw [← Ny429.out] at ho; have n0_ := aM (blk_grown (g := gb426) (o := .cells #[.int .i64 ((rd_impl_Peg l0 x22_1).f0), .int .i64 ((rd_impl_Peg l0 x22_1).f1)] 34 (0, 0)) (by (with_reducible repeat (first | refine kN ?_ _ | refine kD ?_ | refine kA ?_ _)); exact BK426.out) hg (Kd.R_away HO_16.out (fun _ hk => hk.1.2))); have n1_ := aM (blk_grown (g := gb427) (o := .cells #[.int .i64 (wrap64 ((wrap64 ((wrap64 (a1 * ((rd_impl_Peg l0 x22_1).f0))) + (wrap64 (a2 * ((rd_impl_Peg l0 x22_1).f1))))) + a5)), .int .i64 (wrap64 ((wrap64 ((wrap64 (a3 * ((rd_impl_Peg l0 x22_1).f0))) + (wrap64 (a4 * ((rd_impl_Peg l0 x22_1).f1))))) + a6))] 34 (0, 0)) (by (with_reducible repeat (first | refine kN ?_ _ | refine kD ?_ | refine kA ?_ _)); exact BK427.out) hg (Kd.R_away HO_16.out (fun _ hk => hk.2))); have n2_ := aM (hb); have n3_ := aM (ho); clear BK426; clear BK427; clear HB; clear HO_16; have BK426 := n0_; have BK427 := n1_; have HB := n2_; have HO431 := n3_; clear n0_ n1_ n2_ n3_; clear ho hb hg hat))
        go_roundg k1
        case measure => have := HK1.out; omega
        case rel => exact ⟨(y429), (wrap64 (x22_1 + 1)), (by first | rfl | (simp; done) | (simp [*]; done)), H', ⟨by have := HK1.out; omega⟩, ⟨by (with_reducible repeat (first | apply rA | apply rN | apply rD)); exact Kd.R_mono HO431.out (fun _ hk => trivial)⟩, ⟨by repeat (first | (with_reducible first | exact HB.out | apply pA | apply pN | apply pD | refine pS ?_ GE426.out | refine pS ?_ GE427.out) | exact HB.out)⟩⟩
       ·rw [if_neg c13] at H
        exact absurd H (by simp)
      ·replace c12 := Bool.eq_false_iff.mpr c12
       subst c12
       have H1 : (some (([] : List (S_impl_Peg)), false)) = some (r1, r2) := by rw [if_neg (show ¬ (false = true) by decide)] at H; exact H
       clear H
       have H := H1
       clear H1
       simp only [Option.some.injEq, Prod.mk.injEq] at H
       obtain ⟨rfl, rfl⟩ := H
       have p425 : 0 ≤ (x22_1 : Int) := dT (by first | (with_reducible assumption) | assumption)
       have q425 : x22_1 < (l0.length : Int) := dT (by first | (with_reducible assumption) | assumption)
       obtain ⟨ad425, e425, hx425_0, hx425_1⟩ := at_impl_Peg HR0.out x22_1 p425 q425
       cases e425
       replace hx425_0 := (HB.out.cell (wB w _ hx425_0)).trans hx425_0
       replace hx425_1 := (HB.out.cell (wB w _ hx425_1)).trans hx425_1
       replace p425 := eq_true p425
       replace q425 := eq_true q425
       go_wp2_with (first | ((with_reducible refine gate_dst (N := 18) rfl ?_); refine box_event ?hg (N := 18) ?hd (cs := #[.int .i64 0, .int .i64 0]) (t := 34) ?hr ?_; (case hd => rfl); (case hg => rfl); (case hr => first | (go_simp; done) | (go_simp; rfl)); intro gb426 hg w22 hbox hb; have n0_ := aM (Kd.R_below (Kd.R_elderB (by (with_reducible repeat (first | apply rA | apply rN | apply rD)); exact HO_16.out) gb426 (Nat.le_of_eq hg.symm)) hb); have n1_ := aM (pT (by repeat (first | (with_reducible first | exact HB.out | apply pA | apply pN | apply pD) | exact HB.out)) hb); have n2_ := aM (hbox); have n3_ := aM ((by rw [hg]; exact (pZ (by repeat (first | (with_reducible first | exact HB.out | apply pA | apply pN | apply pD) | exact HB.out))) : w.heap.size ≤ gb426)); have n4_ := aM ((by rw [hg]; exact (pZ (by repeat (first | (with_reducible first | exact HB.out | apply pA | apply pN | apply pD) | exact HB.out))) : w.heap.size ≤ gb426)); clear HO_16; clear HB; have HO_16 := n0_; have HB := n1_; have BK426 := n2_; have GW426 := n3_; have GE426 := n4_; clear n0_ n1_ n2_ n3_ n4_; clear hb hbox hg; have hcz23_0 : w22.cell? ⟨gb426, 0, none⟩ = some (.int .i64 0) := (kC BK426.out 0).trans rfl; have hcz23_1 : w22.cell? ⟨gb426, 1, none⟩ = some (.int .i64 0) := (kC BK426.out 1).trans rfl; have hfz23_0 := kF BK426.out 0; have hfz23_1 := kF BK426.out 1) | ((with_reducible refine gate_dst (N := 19) rfl ?_); refine box_event ?hg (N := 19) ?hd (cs := #[.int .i64 0, .int .i64 0]) (t := 34) ?hr ?_; (case hd => rfl); (case hg => rfl); (case hr => first | (go_simp; done) | (go_simp; rfl)); intro gb427 hg w24 hbox hb; have n0_ := aM (Kd.R_below (Kd.R_elderB (by (with_reducible repeat (first | apply rA | apply rN | apply rD)); exact (Kd.R_mono (Kd.R_far (p := ⟨gb426, 1, none⟩) (Kd.R_far (p := ⟨gb426, 0, none⟩) (Kd.R_mono HO_16.out (fun k_ hk => (⟨hk, hk.2⟩ : _ ∧ k_ ≠ gb426))) (fun _ hk => hk.2) (.int .i64 ((rd_impl_Peg l0 x22_1).f0))) (fun _ hk => hk.2) (.int .i64 ((rd_impl_Peg l0 x22_1).f1))) (fun _ h_ => h_.1))) gb427 (Nat.le_of_eq hg.symm)) hb); have n1_ := aM (blk_below (g := gb426) (o := .cells #[.int .i64 ((rd_impl_Peg l0 x22_1).f0), .int .i64 ((rd_impl_Peg l0 x22_1).f1)] 34 (0, 0)) (by (with_reducible repeat (first | refine kN ?_ _ | refine kD ?_ | refine kA ?_ _)); refine blk_put (cs := #[.int .i64 ((rd_impl_Peg l0 x22_1).f0), .int .i64 0]) ?_ 1 _ rfl; (with_reducible repeat (first | refine kN ?_ _ | refine kD ?_ | refine kA ?_ _)); refine blk_put (cs := #[.int .i64 0, .int .i64 0]) ?_ 0 _ rfl; (with_reducible repeat (first | refine kN ?_ _ | refine kD ?_ | refine kA ?_ _)); exact BK426.out) hb); have n2_ := aM (pT (by repeat (first | (with_reducible first | exact HB.out | apply pA | apply pN | apply pD | refine pS ?_ GE426.out) | exact HB.out)) hb); have n3_ := aM (hbox); have n4_ := aM ((by rw [hg]; exact (pZ (by repeat (first | (with_reducible first | exact HB.out | apply pA | apply pN | apply pD | refine pS ?_ GE426.out) | exact HB.out))) : w.heap.size ≤ gb427)); have n5_ := aM ((by rw [hg]; exact (pZ (by repeat (first | (with_reducible first | exact HB.out | apply pA | apply pN | apply pD | refine pS ?_ GE426.out) | exact HB.out))) : w.heap.size ≤ gb427)); have n6_ := aM ((by rw [hg]; exact nN (blk_lt (g := gb426) (o := .cells #[.int .i64 ((rd_impl_Peg l0 x22_1).f0), .int .i64 ((rd_impl_Peg l0 x22_1).f1)] 34 (0, 0)) (by (with_reducible repeat (first | refine kN ?_ _ | refine kD ?_ | refine kA ?_ _)); refine blk_put (cs := #[.int .i64 ((rd_impl_Peg l0 x22_1).f0), .int .i64 0]) ?_ 1 _ rfl; (with_reducible repeat (first | refine kN ?_ _ | refine kD ?_ | refine kA ?_ _)); refine blk_put (cs := #[.int .i64 0, .int .i64 0]) ?_ 0 _ rfl; (with_reducible repeat (first | refine kN ?_ _ | refine kD ?_ | refine kA ?_ _)); exact BK426.out)) : gb426 ≠ gb427)); have n7_ := aM ((by rw [hg]; exact Nat.ne_of_gt (blk_lt (g := gb426) (o := .cells #[.int .i64 ((rd_impl_Peg l0 x22_1).f0), .int .i64 ((rd_impl_Peg l0 x22_1).f1)] 34 (0, 0)) (by (with_reducible repeat (first | refine kN ?_ _ | refine kD ?_ | refine kA ?_ _)); refine blk_put (cs := #[.int .i64 ((rd_impl_Peg l0 x22_1).f0), .int .i64 0]) ?_ 1 _ rfl; (with_reducible repeat (first | refine kN ?_ _ | refine kD ?_ | refine kA ?_ _)); refine blk_put (cs := #[.int .i64 0, .int .i64 0]) ?_ 0 _ rfl; (with_reducible repeat (first | refine kN ?_ _ | refine kD ?_ | refine kA ?_ _)); exact BK426.out)) : gb427 ≠ gb426)); clear HO_16; clear BK426; clear HB; have HO_16 := n0_; have BK426 := n1_; have HB := n2_; have BK427 := n3_; have GW427 := n4_; have GE427 := n5_; have NB426_427 := n6_; have NB427_426 := n7_; clear n0_ n1_ n2_ n3_ n4_ n5_ n6_ n7_; clear hb hbox hg; have hnb25 := NB427_426.out; have hnc25 := NB426_427.out; have hcz26_0 : w24.cell? ⟨gb427, 0, none⟩ = some (.int .i64 0) := (kC BK427.out 0).trans rfl; have hcz26_1 : w24.cell? ⟨gb427, 1, none⟩ = some (.int .i64 0) := (kC BK427.out 1).trans rfl; have hfz26_0 := kF BK427.out 0; have hfz26_1 := kF BK427.out 1) | ((with_reducible refine gC (f := 87) rfl ?_); refine goesL_ (some 50) rfl rfl Try.func87 (by kernel_rfl) rfl #[.agg #[.int .i64 (wrap64 ((wrap64 ((wrap64 (a1 * ((rd_impl_Peg l0 x22_1).f0))) + (wrap64 (a2 * ((rd_impl_Peg l0 x22_1).f1))))) + a5)), .int .i64 (wrap64 ((wrap64 ((wrap64 (a3 * ((rd_impl_Peg l0 x22_1).f0))) + (wrap64 (a4 * ((rd_impl_Peg l0 x22_1).f1))))) + a6))]] rfl (by (try simp only [mA, mC, mN]); first | done | rfl | (simp only [lD, lT]; rfl)) ?_; (with_reducible refine (spec_pgIs.calls (wrap64 ((wrap64 ((wrap64 (a1 * ((rd_impl_Peg l0 x22_1).f0))) + (wrap64 (a2 * ((rd_impl_Peg l0 x22_1).f1))))) + a5)) (wrap64 ((wrap64 ((wrap64 (a3 * ((rd_impl_Peg l0 x22_1).f0))) + (wrap64 (a4 * ((rd_impl_Peg l0 x22_1).f1))))) + a6)) false _ A11.out).mono ?_); rintro e w27 ⟨rfl, hb⟩; refine ⟨_, rfl, ?_⟩; have n0_ := aM (Kd.R_below (by (with_reducible repeat (first | apply rA | apply rN | apply rD)); exact (Kd.R_mono (Kd.R_far (p := ⟨gb427, 1, none⟩) (Kd.R_far (p := ⟨gb427, 0, none⟩) (Kd.R_mono HO_16.out (fun k_ hk => (⟨hk, hk.2⟩ : _ ∧ k_ ≠ gb427))) (fun _ hk => hk.2) (.int .i64 (wrap64 ((wrap64 ((wrap64 (a1 * ((rd_impl_Peg l0 x22_1).f0))) + (wrap64 (a2 * ((rd_impl_Peg l0 x22_1).f1))))) + a5)))) (fun _ hk => hk.2) (.int .i64 (wrap64 ((wrap64 ((wrap64 (a3 * ((rd_impl_Peg l0 x22_1).f0))) + (wrap64 (a4 * ((rd_impl_Peg l0 x22_1).f1))))) + a6)))) (fun _ h_ => h_.1))) hb); have n1_ := aM (blk_below (g := gb426) (o := .cells #[.int .i64 ((rd_impl_Peg l0 x22_1).f0), .int .i64 ((rd_impl_Peg l0 x22_1).f1)] 34 (0, 0)) (by (with_reducible repeat (first | refine kN ?_ _ | refine kD ?_ | refine kA ?_ _)); refine blk_far ?_ NB426_427.out _; (with_reducible repeat (first | refine kN ?_ _ | refine kD ?_ | refine kA ?_ _)); refine blk_far ?_ NB426_427.out _; (with_reducible repeat (first | refine kN ?_ _ | refine kD ?_ | refine kA ?_ _)); exact BK426.out) hb); have n2_ := aM (blk_below (g := gb427) (o := .cells #[.int .i64 (wrap64 ((wrap64 ((wrap64 (a1 * ((rd_impl_Peg l0 x22_1).f0))) + (wrap64 (a2 * ((rd_impl_Peg l0 x22_1).f1))))) + a5)), .int .i64 (wrap64 ((wrap64 ((wrap64 (a3 * ((rd_impl_Peg l0 x22_1).f0))) + (wrap64 (a4 * ((rd_impl_Peg l0 x22_1).f1))))) + a6))] 34 (0, 0)) (by (with_reducible repeat (first | refine kN ?_ _ | refine kD ?_ | refine kA ?_ _)); refine blk_put (cs := #[.int .i64 (wrap64 ((wrap64 ((wrap64 (a1 * ((rd_impl_Peg l0 x22_1).f0))) + (wrap64 (a2 * ((rd_impl_Peg l0 x22_1).f1))))) + a5)), .int .i64 0]) ?_ 1 _ rfl; (with_reducible repeat (first | refine kN ?_ _ | refine kD ?_ | refine kA ?_ _)); refine blk_put (cs := #[.int .i64 0, .int .i64 0]) ?_ 0 _ rfl; (with_reducible repeat (first | refine kN ?_ _ | refine kD ?_ | refine kA ?_ _)); exact BK427.out) hb); have n3_ := aM (pT (by repeat (first | (with_reducible first | exact HB.out | apply pA | apply pN | apply pD | refine pS ?_ GE426.out | refine pS ?_ GE427.out) | exact HB.out)) hb); clear HO_16; clear BK426; clear BK427; clear HB; have HO_16 := n0_; have BK426 := n1_; have BK427 := n2_; have HB := n3_; clear n0_ n1_ n2_ n3_; (try clear hb); (try clear hb2); (try clear hk); (try clear hi)))
       go_ret2
       exact ⟨_, by first | rfl | (simp [errW_none, errW_some] <;> rfl) | (simp [*, errW_none, errW_some] <;> rfl), by first | exact Kd.R_nil _ _ _ _ _ | exact Kd.N_nil _ _ _ _ _ | exact Kd.V_nil _ _ _ _ _ | exact Kd.Q_nil _ _ _ _ _ | exact Kd.S_nil _ _ _ _ _, by repeat (first | (with_reducible first | exact HB.out | apply pA | apply pN | apply pD | refine pS ?_ GE426.out | refine pS ?_ GE427.out) | exact HB.out)⟩
     ·rw [if_neg c10] at H
      exact absurd H (by simp)
    ·rw [if_neg c9] at H
     exact absurd H (by simp)
   ·rw [if_neg c8] at H
    have c8b0 : decide (x22_1 < (l0.length : Int)) = false := decide_eq_false c8
    clear c8
    simp only [Option.some.injEq, Prod.mk.injEq] at H
    obtain ⟨rfl, rfl⟩ := H
    go_wp2
    go_ret2
    exact ⟨_, by first | rfl | (simp [errW_none, errW_some] <;> rfl) | (simp [*, errW_none, errW_some] <;> rfl), by (with_reducible repeat (first | apply rA | apply rN | apply rD)); exact HO_16.out, by repeat (first | (with_reducible first | exact HB.out | apply pA | apply pN | apply pD) | exact HB.out)⟩

def spec_MirrorPolygon.f (k : Nat) (l0 : List (S_impl_Peg)) : Option ((List (S_impl_Peg)) × Bool) := (spec_pgGood.f k l0).bind fun t432 => (if t432 = true then ((spec_pgMap.f k l0 (-1) 0 0 1 0 0).bind fun bt433 => (some (bt433.1, bt433.2))) else (some (([] : List (S_impl_Peg)), false)))
theorem spec_MirrorPolygon.mono : ∀ a0 k, LeO (spec_MirrorPolygon.f k a0) (spec_MirrorPolygon.f (k + 1) a0) := by
 intro a0 k
 unfold spec_MirrorPolygon.f
 repeat' first
   | (with_reducible exact spec_pgGood.mono _ _)
   | (with_reducible exact spec_pgMap.mono _ _ _ _ _ _ _ _)
   | (with_reducible exact LeO.refl _)
   | (with_reducible exact LeO.none _)
   | (with_reducible refine LeO.ite ?_ ?_)
   | (with_reducible refine LeO.bind ?_ (fun _ => ?_))
   | exact spec_pgGood.mono _ _
   | exact spec_pgMap.mono _ _ _ _ _ _ _ _
   | exact LeO.none _
   | refine LeO.ite ?_ ?_
   | refine LeO.bind ?_ (fun _ => ?_)
set_option maxHeartbeats 8000000 in
set_option maxRecDepth 100000 in
theorem spec_MirrorPolygon.calls (k : Nat) (A0 : Option Addr) (c0 : Nat) (l0 : List (S_impl_Peg)) (r1 : List (S_impl_Peg)) (r2 : Bool) (w : World) (hr0 : Kd.C kd_impl_Peg w A0 l0.length l0) (hc0 : l0.length ≤ c0) (h : spec_MirrorPolygon.f k l0 = some (r1, r2)) :
  Calls Try.prog 41 #[.slice A0 l0.length c0] w fun e w' => ∃ v0_ : Value, e = .returned (.tuple #[v0_, .bool r2]) ∧ Kd.R kd_impl_Peg 34 w' w.heap.size (fun _ => True) v0_ r1 ∧ Below w.heap.size w w' := by
 have HR0 := aM hr0
 have HC0 := aM hc0
 clear hr0 hc0
 have HB := aM (Below.refl w.heap.size w)
 have H : ((spec_pgGood.f k l0).bind fun t432 => (if t432 = true then ((spec_pgMap.f k l0 (-1) 0 0 1 0 0).bind fun bt433 => (some (bt433.1, bt433.2))) else (some (([] : List (S_impl_Peg)), false)))) = some (r1, r2) := h
 clear h
 replace H := oB.mp H
 obtain ⟨t432, A20, H⟩ := H
 replace H : (if t432 = true then ((spec_pgMap.f k l0 (-1) 0 0 1 0 0).bind fun bt433 => (some (bt433.1, bt433.2))) else (some (([] : List (S_impl_Peg)), false))) = some (r1, r2) := H
 have A2 := aM A20
 clear A20
 by_cases c3 : t432 = true
 ·subst c3
  have H1 : ((spec_pgMap.f k l0 (-1) 0 0 1 0 0).bind fun bt433 => (some (bt433.1, bt433.2))) = some (r1, r2) := by rw [if_pos rfl] at H; exact H
  clear H
  have H := H1
  clear H1
  replace H := oB.mp H
  obtain ⟨⟨t433, t434⟩, A40, H⟩ := H
  replace H : (some (t433, t434)) = some (r1, r2) := H
  have A4 := aM A40
  clear A40
  simp only [Option.some.injEq, Prod.mk.injEq] at H
  obtain ⟨rfl, rfl⟩ := H
  go_enter Try.func41, Try.ntmps41
  go_wp2_with (first | ((with_reducible refine gC (f := 83) rfl ?_); refine goesL_ (some 5) rfl rfl Try.func83 (by kernel_rfl) rfl #[.slice A0 l0.length c0] rfl (by (try simp only [mA, mC, mN]); first | done | rfl | (simp only [lD, lT]; rfl)) ?_; (with_reducible refine (spec_pgGood.calls k _ _ l0 true _ ?side1 ?side2 A2.out).mono ?_); (case side1 => repeat (first | exact HR0.out | (with_reducible refine cA ?_ _) | (with_reducible refine cN ?_ _) | (with_reducible refine cD ?_))); (case side2 => exact HC0.out); rintro e w5 ⟨rfl, hb⟩; refine ⟨_, rfl, ?_⟩; have n0_ := aM (pT (by repeat (first | (with_reducible first | exact HB.out | apply pA | apply pN | apply pD) | exact HB.out)) hb); clear HB; have HB := n0_; clear n0_; (try clear hb); (try clear hb2); (try clear hk); (try clear hi)) | ((with_reducible refine gC (f := 99) rfl ?_); refine goesL_ (some 8) rfl rfl Try.func99 (by kernel_rfl) rfl #[.slice A0 l0.length c0, .int .i64 (-1), .int .i64 0, .int .i64 0, .int .i64 1, .int .i64 0, .int .i64 0] rfl (by (try simp only [mA, mC, mN]); first | done | rfl | (simp only [lD, lT]; rfl)) ?_; (with_reducible refine (spec_pgMap.calls k _ _ l0 (-1) 0 0 1 0 0 t433 t434 _ ?side1 ?side2 A4.out).mono ?_); (case side1 => repeat (first | exact (Kd.C_below HR0.out HB.out) | (with_reducible refine cA ?_ _) | (with_reducible refine cN ?_ _) | (with_reducible refine cD ?_))); (case side2 => exact HC0.out); rintro e w6 ⟨v435, rfl, ho0, hb⟩; refine ⟨_, rfl, ?_⟩; have n0_ := aM (Kd.R_lower ho0 (pZ (by repeat (first | (with_reducible first | exact HB.out | apply pA | apply pN | apply pD) | exact HB.out)))); have n1_ := aM (pT (by repeat (first | (with_reducible first | exact HB.out | apply pA | apply pN | apply pD) | exact HB.out)) hb); clear HB; have HO436 := n0_; have HB := n1_; clear n0_ n1_; (try clear hb); (try clear hb2); (try clear hk); (try clear hi); (try clear ho0)))
  go_ret2
  exact ⟨_, by first | rfl | (simp [errW_none, errW_some] <;> rfl) | (simp [*, errW_none, errW_some] <;> rfl), by (with_reducible repeat (first | apply rA | apply rN | apply rD)); exact HO436.out, by repeat (first | (with_reducible first | exact HB.out | apply pA | apply pN | apply pD) | exact HB.out)⟩
 ·replace c3 := Bool.eq_false_iff.mpr c3
  subst c3
  have H1 : (some (([] : List (S_impl_Peg)), false)) = some (r1, r2) := by rw [if_neg (show ¬ (false = true) by decide)] at H; exact H
  clear H
  have H := H1
  clear H1
  simp only [Option.some.injEq, Prod.mk.injEq] at H
  obtain ⟨rfl, rfl⟩ := H
  go_enter Try.func41, Try.ntmps41
  go_wp2_with (first | ((with_reducible refine gC (f := 83) rfl ?_); refine goesL_ (some 5) rfl rfl Try.func83 (by kernel_rfl) rfl #[.slice A0 l0.length c0] rfl (by (try simp only [mA, mC, mN]); first | done | rfl | (simp only [lD, lT]; rfl)) ?_; (with_reducible refine (spec_pgGood.calls k _ _ l0 false _ ?side1 ?side2 A2.out).mono ?_); (case side1 => repeat (first | exact HR0.out | (with_reducible refine cA ?_ _) | (with_reducible refine cN ?_ _) | (with_reducible refine cD ?_))); (case side2 => exact HC0.out); rintro e w7 ⟨rfl, hb⟩; refine ⟨_, rfl, ?_⟩; have n0_ := aM (pT (by repeat (first | (with_reducible first | exact HB.out | apply pA | apply pN | apply pD) | exact HB.out)) hb); clear HB; have HB := n0_; clear n0_; (try clear hb); (try clear hb2); (try clear hk); (try clear hi)))
  go_ret2
  exact ⟨_, by first | rfl | (simp [errW_none, errW_some] <;> rfl) | (simp [*, errW_none, errW_some] <;> rfl), by first | exact Kd.R_nil _ _ _ _ _ | exact Kd.N_nil _ _ _ _ _ | exact Kd.V_nil _ _ _ _ _ | exact Kd.Q_nil _ _ _ _ _ | exact Kd.S_nil _ _ _ _ _, by repeat (first | (with_reducible first | exact HB.out | apply pA | apply pN | apply pD) | exact HB.out)⟩

-- NOT PRINTED: function 100 (impl_changed)

def impl_MirrorPolygon_1.f (a0_0 : Int) (a0_1 : Int) : Option (Int × Int) := some (wrap64 (-a0_0), a0_1)
set_option maxHeartbeats 8000000 in
set_option maxRecDepth 100000 in
theorem impl_MirrorPolygon_1.calls (a0_0 : Int) (a0_1 : Int) (r1 : Int) (r2 : Int) (w : World) (h : impl_MirrorPolygon_1.f a0_0 a0_1 = some (r1, r2)) :
  Calls Try.prog 101 #[.agg #[.int .i64 a0_0, .int .i64 a0_1]] w fun e w' => e = .returned (.agg #[.int .i64 r1, .int .i64 r2]) ∧ Below w.heap.size w w' := by
 have hu34 := Try.underlying34
 have HB := aM (Below.refl w.heap.size w)
 have H : (some (wrap64 (-a0_0), a0_1)) = some (r1, r2) := h
 clear h
 simp only [Option.some.injEq, Prod.mk.injEq] at H
 obtain ⟨rfl, rfl⟩ := H
 go_enter Try.func101, Try.ntmps101
 go_wp2_with (first | ((with_reducible refine gate_dst (N := 1) rfl ?_); refine box_event ?hg (N := 1) ?hd (cs := #[.int .i64 a0_0, .int .i64 a0_1]) (t := 34) ?hr ?_; (case hd => rfl); (case hg => rfl); (case hr => first | (go_simp; done) | (go_simp; rfl)); intro gb437 hg w2 hbox hb; have n0_ := aM (pT (by repeat (first | (with_reducible first | exact HB.out | apply pA | apply pN | apply pD) | exact HB.out)) hb); have n1_ := aM (hbox); have n2_ := aM ((by rw [hg]; exact (pZ (by repeat (first | (with_reducible first | exact HB.out | apply pA | apply pN | apply pD) | exact HB.out))) : w.heap.size ≤ gb437)); have n3_ := aM ((by rw [hg]; exact (pZ (by repeat (first | (with_reducible first | exact HB.out | apply pA | apply pN | apply pD) | exact HB.out))) : w.heap.size ≤ gb437)); clear HB; have HB := n0_; have BK437 := n1_; have GW437 := n2_; have GE437 := n3_; clear n0_ n1_ n2_ n3_; clear hb hbox hg) | ((with_reducible refine gate_dst (N := 2) rfl ?_); refine box_event ?hg (N := 2) ?hd (cs := #[.int .i64 0, .int .i64 0]) (t := 34) ?hr ?_; (case hd => rfl); (case hg => rfl); (case hr => first | (go_simp; done) | (go_simp; rfl)); intro gb438 hg w3 hbox hb; have n0_ := aM (blk_below (g := gb437) (o := .cells #[.int .i64 a0_0, .int .i64 a0_1] 34 (0, 0)) (by (with_reducible repeat (first | refine kN ?_ _ | refine kD ?_ | refine kA ?_ _)); exact BK437.out) hb); have n1_ := aM (pT (by repeat (first | (with_reducible first | exact HB.out | apply pA | apply pN | apply pD | refine pS ?_ GE437.out) | exact HB.out)) hb); have n2_ := aM (hbox); have n3_ := aM ((by rw [hg]; exact (pZ (by repeat (first | (with_reducible first | exact HB.out | apply pA | apply pN | apply pD | refine pS ?_ GE437.out) | exact HB.out))) : w.heap.size ≤ gb438)); have n4_ := aM ((by rw [hg]; exact (pZ (by repeat (first | (with_reducible first | exact HB.out | apply pA | apply pN | apply pD | refine pS ?_ GE437.out) | exact HB.out))) : w.heap.size ≤ gb438)); have n5_ := aM ((by rw [hg]; exact nN (blk_lt (g := gb437) (o := .cells #[.int .i64 a0_0, .int .i64 a0_1] 34 (0, 0)) (by (with_reducible repeat (first | refine kN ?_ _ | refine kD ?_ | refine kA ?_ _)); exact BK437.out)) : gb437 ≠ gb438)); have n6_ := aM ((by rw [hg]; exact Nat.ne_of_gt (blk_lt (g := gb437) (o := .cells #[.int .i64 a0_0, .int .i64 a0_1] 34 (0, 0)) (by (with_reducible repeat (first | refine kN ?_ _ | refine kD ?_ | refine kA ?_ _)); exact BK437.out)) : gb438 ≠ gb437)); clear BK437; clear HB; have BK437 := n0_; have HB := n1_; have BK438 := n2_; have GW438 := n3_; have GE438 := n4_; have NB437_438 := n5_; have NB438_437 := n6_; clear n0_ n1_ n2_ n3_ n4_ n5_ n6_; clear hb hbox hg; have hnb4 := NB437_438.out; have hnc4 := NB438_437.out; have hcz5_0 : w3.cell? ⟨gb437, 0, none⟩ = some (.int .i64 a0_0) := (kC BK437.out 0).trans rfl; have hcz5_1 : w3.cell? ⟨gb437, 1, none⟩ = some (.int .i64 a0_1) := (kC BK437.out 1).trans rfl; have hfz5_0 := kF BK437.out 0; have hfz5_1 := kF BK437.out 1; have hcz6_0 : w3.cell? ⟨gb438, 0, none⟩ = some (.int .i64 0) := (kC BK438.out 0).trans rfl; have hcz6_1 : w3.cell? ⟨gb438, 1, none⟩ = some (.int .i64 0) := (kC BK438.out 1).trans rfl; have hfz6_0 := kF BK438.out 0; have hfz6_1 := kF BK438.out 1))
 refine bodyPost_ret (results_cell_row rfl _ _ gb438 34 #[.int .i64 (wrap64 (-a0_0)), .int .i64 a0_1] (0, 0) _ rfl (by (with_reducible repeat (first | refine kN ?_ _ | refine kD ?_ | refine kA ?_ _)); refine blk_put (cs := #[.int .i64 (wrap64 (-a0_0)), .int .i64 0]) ?_ 1 _ rfl; (with_reducible repeat (first | refine kN ?_ _ | refine kD ?_ | refine kA ?_ _)); refine blk_put (cs := #[.int .i64 0, .int .i64 0]) ?_ 0 _ rfl; (with_reducible repeat (first | refine kN ?_ _ | refine kD ?_ | refine kA ?_ _)); exact BK438.out) Try.underlying34 rfl (by kernel_rfl)) rfl ?_
 exact ⟨by first | rfl | (simp [errW_none, errW_some] <;> rfl) | (simp [*, errW_none, errW_some] <;> rfl), by repeat (first | (with_reducible first | exact HB.out | apply pA | apply pN | apply pD | refine pS ?_ GE437.out | refine pS ?_ GE438.out) | exact HB.out)⟩

def impl_changed_at_impl_MirrorPolygon_1.l0 : Nat → List (S_impl_Peg) → List (S_impl_Peg) → Int → Int → Option ((List (S_impl_Peg)) × Bool)
 | 0, _, _, _, _ => none
 | k + 1, x6, x13, x14, x15 => if x15 < x14 then (if 0 ≤ x15 then (if x15 < (x13.length : Int) then ((impl_MirrorPolygon_1.f ((rd_impl_Peg x13 x15).f0) ((rd_impl_Peg x13 x15).f1)).bind fun bt445 => (if x6.length < 8796093022208 then (impl_changed_at_impl_MirrorPolygon_1.l0 k (x6 ++ [(⟨bt445.1, bt445.2⟩ : S_impl_Peg)]) x13 x14 (wrap64 (x15 + 1))) else (none))) else (none)) else (none)) else ((impl_arePegs.f k x6).bind fun t450 => (if t450 = true then (some (x6, true)) else (some (([] : List (S_impl_Peg)), false))))
def impl_changed_at_impl_MirrorPolygon_1.f (k : Nat) (l0 : List (S_impl_Peg)) : Option ((List (S_impl_Peg)) × Bool) := (impl_IsPolygon.f k l0).bind fun t439 => (if t439 = true then (impl_changed_at_impl_MirrorPolygon_1.l0 k (([] : List (S_impl_Peg))) l0 (l0.length : Int) 0) else (some (([] : List (S_impl_Peg)), false)))
theorem impl_changed_at_impl_MirrorPolygon_1.mono_l : ∀ k, (∀ y0 y1 y2 y3, LeO (impl_changed_at_impl_MirrorPolygon_1.l0 k y0 y1 y2 y3) (impl_changed_at_impl_MirrorPolygon_1.l0 (k + 1) y0 y1 y2 y3))
 | 0 => fun _ _ _ _ r h => by simp [impl_changed_at_impl_MirrorPolygon_1.l0] at h
 | k + 1 => by
  have ih0 := impl_changed_at_impl_MirrorPolygon_1.mono_l k
  ·intro y0 y1 y2 y3
   unfold impl_changed_at_impl_MirrorPolygon_1.l0
   repeat' first
   | (with_reducible exact ih0 _ _ _ _)
   | (with_reducible exact impl_IsPolygon.mono _ _)
   | (with_reducible exact impl_arePegs.mono _ _)
   | (with_reducible exact LeO.refl _)
   | (with_reducible exact LeO.none _)
   | (with_reducible refine LeO.ite ?_ ?_)
   | (with_reducible refine LeO.bind ?_ (fun _ => ?_))
   | exact ih0 _ _ _ _
   | exact impl_IsPolygon.mono _ _
   | exact impl_arePegs.mono _ _
   | exact LeO.none _
   | refine LeO.ite ?_ ?_
   | refine LeO.bind ?_ (fun _ => ?_)
theorem impl_changed_at_impl_MirrorPolygon_1.mono : ∀ a0 k, LeO (impl_changed_at_impl_MirrorPolygon_1.f k a0) (impl_changed_at_impl_MirrorPolygon_1.f (k + 1) a0) := by
 intro a0 k
 have ih0 := impl_changed_at_impl_MirrorPolygon_1.mono_l k
 unfold impl_changed_at_impl_MirrorPolygon_1.f
 repeat' first
   | (with_reducible exact ih0 _ _ _ _)
   | (with_reducible exact impl_IsPolygon.mono _ _)
   | (with_reducible exact impl_arePegs.mono _ _)
   | (with_reducible exact LeO.refl _)
   | (with_reducible exact LeO.none _)
   | (with_reducible refine LeO.ite ?_ ?_)
   | (with_reducible refine LeO.bind ?_ (fun _ => ?_))
   | exact ih0 _ _ _ _
   | exact impl_IsPolygon.mono _ _
   | exact impl_arePegs.mono _ _
   | exact LeO.none _
   | refine LeO.ite ?_ ?_
   | refine LeO.bind ?_ (fun _ => ?_)
set_option maxHeartbeats 8000000 in
set_option maxRecDepth 100000 in
theorem impl_changed_at_impl_MirrorPolygon_1.calls (k : Nat) (A0 : Option Addr) (c0 : Nat) (l0 : List (S_impl_Peg)) (r1 : List (S_impl_Peg)) (r2 : Bool) (w : World) (hr0 : Kd.C kd_impl_Peg w A0 l0.length l0) (hc0 : l0.length ≤ c0) (h : impl_changed_at_impl_MirrorPolygon_1.f k l0 = some (r1, r2)) :
  Calls Try.prog 100 #[.slice A0 l0.length c0, .func (.func 101) #[] #[]] w fun e w' => ∃ v0_ : Value, e = .returned (.tuple #[v0_, .bool r2]) ∧ Kd.R kd_impl_Peg 34 w' w.heap.size (fun _ => True) v0_ r1 ∧ Below w.heap.size w w' := by
 have hu34 := Try.underlying34
 have HR0 := aM hr0
 have HC0 := aM hc0
 clear hr0 hc0
 have HB := aM (Below.refl w.heap.size w)
 have H : ((impl_IsPolygon.f k l0).bind fun t439 => (if t439 = true then (impl_changed_at_impl_MirrorPolygon_1.l0 k (([] : List (S_impl_Peg))) l0 (l0.length : Int) 0) else (some (([] : List (S_impl_Peg)), false)))) = some (r1, r2) := h
 clear h
 replace H := oB.mp H
 obtain ⟨t439, A20, H⟩ := H
 replace H : (if t439 = true then (impl_changed_at_impl_MirrorPolygon_1.l0 k (([] : List (S_impl_Peg))) l0 (l0.length : Int) 0) else (some (([] : List (S_impl_Peg)), false))) = some (r1, r2) := H
 have A2 := aM A20
 clear A20
 by_cases c3 : t439 = true
 ·subst c3
  have H1 : (impl_changed_at_impl_MirrorPolygon_1.l0 k (([] : List (S_impl_Peg))) l0 (l0.length : Int) 0) = some (r1, r2) := by rw [if_pos rfl] at H; exact H
  clear H
  have H := H1
  clear H1
  obtain ⟨y440, hy440⟩ : ∃ y_ : List (S_impl_Peg), y_ = (([] : List (S_impl_Peg))) := ⟨_, rfl⟩
  replace H : (impl_changed_at_impl_MirrorPolygon_1.l0 k y440 l0 (l0.length : Int) 0) = some (r1, r2) := by first | (rw [hy440]; with_reducible exact H) | (have H2_ := (Option.bind_some _ _).symm.trans H; rw [hy440]; with_reducible exact H2_) | (have H2_ := (Option.bind_some _ _).symm.trans H; with_reducible exact H2_) | with_reducible exact H | (rw [hy440]; exact H) | exact H
  have Ny440 := aM hy440
  clear hy440
  have H' := aM H
  clear H
  go_enter Try.func100, Try.ntmps100
  go_wp2_with (first | ((with_reducible refine gC (f := 85) rfl ?_); refine goesL_ (some 10) rfl rfl Try.func85 (by kernel_rfl) rfl #[.slice A0 l0.length c0] rfl (by (try simp only [mA, mC, mN]); first | done | rfl | (simp only [lD, lT]; rfl)) ?_; (with_reducible refine (impl_IsPolygon.calls k _ _ l0 true _ ?side1 ?side2 A2.out).mono ?_); (case side1 => repeat (first | exact HR0.out | (with_reducible refine cA ?_ _) | (with_reducible refine cN ?_ _) | (with_reducible refine cD ?_))); (case side2 => exact HC0.out); rintro e w4 ⟨rfl, hb⟩; refine ⟨_, rfl, ?_⟩; have n0_ := aM (pT (by repeat (first | (with_reducible first | exact HB.out | apply pA | apply pN | apply pD) | exact HB.out)) hb); clear HB; have HB := n0_; clear n0_; (try clear hb); (try clear hb2); (try clear hk); (try clear hi)) | ((with_reducible refine gate_dst (N := 12) rfl ?_); refine Kd.R_lit kd_impl_Peg _ 34 ?hg (N := 12) ?hd (xs := ([] : List (S_impl_Peg))) (inner := []) (ok := fun _ => True) (okp := fun _ => True) ?hr ?hp (fun _ hk => hk) trivial (Below.refl _ _) (Nat.le_refl _) (by simp) ?_; (case hd => rfl); (case hg => rfl); (case hr => first | (go_simp; done) | (go_simp; rfl)); (case hp => exact (Reps.none _ _)); intro v441 w5 ho6 hb hg_ hnew_; clear hg_ hnew_; (first | rw [← Ny440.out] at ho6 | (simp only [Int.reduceToNat] at ho6; rw [← Ny440.out] at ho6)); have n0_ := aM (Kd.R_lower ho6 (pZ (by repeat (first | (with_reducible first | exact HB.out | apply pA | apply pN | apply pD) | exact HB.out)))); have n1_ := aM (pT (by repeat (first | (with_reducible first | exact HB.out | apply pA | apply pN | apply pD) | exact HB.out)) hb); clear HB; have HO442 := n0_; have HB := n1_; clear n0_ n1_; clear hb ho6))
  go_loopg [6, 15] k (fun kq v6 v15 w' => ∃ (x6_1 : List (S_impl_Peg)) (x15_1 : Int), v15 = .int .i64 x15_1 ∧ Aside0 (impl_changed_at_impl_MirrorPolygon_1.l0 kq x6_1 l0 (l0.length : Int) x15_1 = some (r1, r2)) ∧ Aside0 (kq ≤ k) ∧ Aside0 (Kd.R kd_impl_Peg 34 w' w.heap.size (fun _ => True) v6 x6_1) ∧ Aside0 (Below w.heap.size w w'))
  case atStart => exact ⟨(y440), (0), (by first | rfl | (simp; done) | (simp [*]; done)), H', ⟨Nat.le_refl _⟩, ⟨by (with_reducible repeat (first | apply rA | apply rN | apply rD)); exact HO442.out⟩, ⟨by repeat (first | (with_reducible first | exact HB.out | apply pA | apply pN | apply pD) | exact HB.out)⟩⟩
  case round =>
   clear H'
   try clear p2
   try clear c3
   obtain ⟨x6_1, x15_1, rfl, HA, HK1, HO_6, HB⟩ := hrel
   cases gk with
   | zero => exact absurd HA.out (by simp [impl_changed_at_impl_MirrorPolygon_1.l0])
   | succ k1 =>
    have H := HA.out
    clear HA
    simp only [impl_changed_at_impl_MirrorPolygon_1.l0] at H
    by_cases c7 : x15_1 < (l0.length : Int)
    ·rw [if_pos c7] at H
     have c7b0 : decide (x15_1 < (l0.length : Int)) = true := dE c7
     clear c7
     by_cases c8 : 0 ≤ x15_1
     ·rw [if_pos c8] at H
      have c8b0 : decide (0 ≤ x15_1) = true := dE c8
      clear c8
      by_cases c9 : x15_1 < (l0.length : Int)
      ·rw [if_pos c9] at H
       have c9b0 : decide (x15_1 < (l0.length : Int)) = true := dE c9
       clear c9
       replace H := oB.mp H
       obtain ⟨⟨t445, t446⟩, A100, H⟩ := H
       replace H : (if x6_1.length < 8796093022208 then (impl_changed_at_impl_MirrorPolygon_1.l0 k1 (x6_1 ++ [(⟨t445, t446⟩ : S_impl_Peg)]) l0 (l0.length : Int) (wrap64 (x15_1 + 1))) else (none)) = some (r1, r2) := H
       have A10 := aM A100
       clear A100
       by_cases c11 : x6_1.length < 8796093022208
       ·rw [if_pos c11] at H
        have LMc11 := aM c11
        clear c11
        obtain ⟨y447, hy447⟩ : ∃ y_ : List (S_impl_Peg), y_ = (x6_1 ++ [(⟨t445, t446⟩ : S_impl_Peg)]) := ⟨_, rfl⟩
        replace H : (impl_changed_at_impl_MirrorPolygon_1.l0 k1 y447 l0 (l0.length : Int) (wrap64 (x15_1 + 1))) = some (r1, r2) := by first | (rw [hy447]; with_reducible exact H) | (have H2_ := (Option.bind_some _ _).symm.trans H; rw [hy447]; with_reducible exact H2_) | (have H2_ := (Option.bind_some _ _).symm.trans H; with_reducible exact H2_) | with_reducible exact H | (rw [hy447]; exact H) | exact H
        have Ny447 := aM hy447
        clear hy447
        have H' := aM H
        clear H
        have p443 : 0 ≤ (x15_1 : Int) := dT (by first | (with_reducible assumption) | assumption)
        have q443 : x15_1 < (l0.length : Int) := dT (by first | (with_reducible assumption) | assumption)
        obtain ⟨ad443, e443, hx443_0, hx443_1⟩ := at_impl_Peg HR0.out x15_1 p443 q443
        cases e443
        replace hx443_0 := (HB.out.cell (wB w _ hx443_0)).trans hx443_0
        replace hx443_1 := (HB.out.cell (wB w _ hx443_1)).trans hx443_1
        replace p443 := eq_true p443
        replace q443 := eq_true q443
        go_wp2_with (first | ((with_reducible refine gate_dst (N := 8) rfl ?_); refine box_event ?hg (N := 8) ?hd (cs := #[.int .i64 0, .int .i64 0]) (t := 34) ?hr ?_; (case hd => rfl); (case hg => rfl); (case hr => first | (go_simp; done) | (go_simp; rfl)); intro gb444 hg w12 hbox hb; have n0_ := aM (Kd.R_below (Kd.R_elderB (by (with_reducible repeat (first | apply rA | apply rN | apply rD)); exact HO_6.out) gb444 (Nat.le_of_eq hg.symm)) hb); have n1_ := aM (pT (by repeat (first | (with_reducible first | exact HB.out | apply pA | apply pN | apply pD) | exact HB.out)) hb); have n2_ := aM (hbox); have n3_ := aM ((by rw [hg]; exact (pZ (by repeat (first | (with_reducible first | exact HB.out | apply pA | apply pN | apply pD) | exact HB.out))) : w.heap.size ≤ gb444)); have n4_ := aM ((by rw [hg]; exact (pZ (by repeat (first | (with_reducible first | exact HB.out | apply pA | apply pN | apply pD) | exact HB.out))) : w.heap.size ≤ gb444)); clear HO_6; clear HB; have HO_6 := n0_; have HB := n1_; have BK444 := n2_; have GW444 := n3_; have GE444 := n4_; clear n0_ n1_ n2_ n3_ n4_; clear hb hbox hg; have hcz13_0 : w12.cell? ⟨gb444, 0, none⟩ = some (.int .i64 0) := (kC BK444.out 0).trans rfl; have hcz13_1 : w12.cell? ⟨gb444, 1, none⟩ = some (.int .i64 0) := (kC BK444.out 1).trans rfl; have hfz13_0 := kF BK444.out 0; have hfz13_1 := kF BK444.out 1) | ((with_reducible refine gate_tmp rfl ?_); refine goesLT_ (some 22) rfl rfl Try.func101 (by kernel_rfl) rfl #[.agg #[.int .i64 ((rd_impl_Peg l0 x15_1).f0), .int .i64 ((rd_impl_Peg l0 x15_1).f1)]] rfl (by first | rfl | (simp [Act.eval]; done)) (by (try simp only [mA, mC, mN]); first | done | rfl | (simp only [lD, lT]; rfl)) ?_; (with_reducible refine (impl_MirrorPolygon_1.calls ((rd_impl_Peg l0 x15_1).f0) ((rd_impl_Peg l0 x15_1).f1) t445 t446 _ A10.out).mono ?_); rintro e w14 ⟨rfl, hb⟩; refine ⟨_, rfl, ?_⟩; have n0_ := aM (Kd.R_below (by (with_reducible repeat (first | apply rA | apply rN | apply rD)); exact (Kd.R_mono (Kd.R_far (p := ⟨gb444, 1, none⟩) (Kd.R_far (p := ⟨gb444, 0, none⟩) (Kd.R_mono HO_6.out (fun k_ hk => (⟨hk, hk.2⟩ : _ ∧ k_ ≠ gb444))) (fun _ hk => hk.2) (.int .i64 ((rd_impl_Peg l0 x15_1).f0))) (fun _ hk => hk.2) (.int .i64 ((rd_impl_Peg l0 x15_1).f1))) (fun _ h_ => h_.1))) hb); have n1_ := aM (blk_below (g := gb444) (o := .cells #[.int .i64 ((rd_impl_Peg l0 x15_1).f0), .int .i64 ((rd_impl_Peg l0 x15_1).f1)] 34 (0, 0)) (by (with_reducible repeat (first | refine kN ?_ _ | refine kD ?_ | refine kA ?_ _)); refine blk_put (cs := #[.int .i64 ((rd_impl_Peg l0 x15_1).f0), .int .i64 0]) ?_ 1 _ rfl; (with_reducible repeat (first | refine kN ?_ _ | refine kD ?_ | refine kA ?_ _)); refine blk_put (cs := #[.int .i64 0, .int .i64 0]) ?_ 0 _ rfl; (with_reducible repeat (first | refine kN ?_ _ | refine kD ?_ | refine kA ?_ _)); exact BK444.out) hb); have n2_ := aM (pT (by repeat (first | (with_reducible first | exact HB.out | apply pA | apply pN | apply pD | refine pS ?_ GE444.out) | exact HB.out)) hb); clear HO_6; clear BK444; clear HB; have HO_6 := n0_; have BK444 := n1_; have HB := n2_; clear n0_ n1_ n2_; (try clear hb); (try clear hb2); (try clear hk); (try clear hi)) | ((with_reducible refine gate_builtin (b := .append) (xs := #[.tmp 19, .tmp 23]) rfl ?_); at_builtin; refine Kd.R_append kd_impl_Peg (w0 := w) w.heap.size rfl (.tmp 19) (.tmp 23) 26 34 (.agg #[(.int .i64 0), (.int .i64 0)]) 16 rfl Try.underlying26 info34 rfl (by decide) (by omega) u6 x6_1 (⟨t445, t446⟩ : S_impl_Peg) [.int .i64 t445, .int .i64 t446] (fun k_ => k_ ≠ gb444) (fun _ => False) rfl rfl ?aP (fun _ hk => hk.elim) ?aF ?aO ?aB ?aS ?aL ?_; (case aP => exact kd_impl_Peg_mkM _ _ _ (⟨t445, t446⟩ : S_impl_Peg)); (case aB => exact (by repeat (first | (with_reducible first | exact HB.out | apply pA | apply pN | apply pD | refine pS ?_ GE444.out) | exact HB.out))); (case aF => exact (fun k_ hk => Kd.freshB (g := gb444) (o := .cells #[.int .i64 ((rd_impl_Peg l0 x15_1).f0), .int .i64 ((rd_impl_Peg l0 x15_1).f1)] 34 (0, 0)) (by (with_reducible repeat (first | refine kN ?_ _ | refine kD ?_ | refine kA ?_ _)); exact BK444.out) k_ hk)); (case aO => exact (by (with_reducible repeat (first | apply rA | apply rN | apply rD)); exact Kd.R_mono HO_6.out (fun _ hk => hk.2))); (case aS => exact (pZ (by repeat (first | (with_reducible first | exact HB.out | apply pA | apply pN | apply pD | refine pS ?_ GE444.out) | exact HB.out)))); (case aL => have := LMc11.out; omega); intro v448 w15 ho hb hg hat; rw [← Ny447.out] at ho; have n0_ := aM (blk_grown (g := gb444) (o := .cells #[.int .i64 ((rd_impl_Peg l0 x15_1).f0), .int .i64 ((rd_impl_Peg l0 x15_1).f1)] 34 (0, 0)) (by (with_reducible repeat (first | refine kN ?_ _ | refine kD ?_ | refine kA ?_ _)); exact BK444.out) hg (Kd.R_away HO_6.out (fun _ hk => hk.2))); have n1_ := aM (hb); have n2_ := aM (ho); clear BK444; clear HB; clear HO_6; have BK444 := n0_; have HB := n1_; have HO449 := n2_; clear n0_ n1_ n2_; clear ho hb hg hat))
        go_roundg k1
        case measure => have := HK1.out; omega
        case rel => exact ⟨(y447), (wrap64 (x15_1 + 1)), (by first | rfl | (simp; done) | (simp [*]; done)), H', ⟨by have := HK1.out; omega⟩, ⟨by (with_reducible repeat (first | apply rA | apply rN | apply rD)); exact Kd.R_mono HO449.out (fun _ hk => trivial)⟩, ⟨by repeat (first | (with_reducible first | exact HB.out | apply pA | apply pN | apply pD | refine pS ?_ GE444.out) | exact HB.out)⟩⟩
       ·rw [if_neg c11] at H
        exact absurd H (by simp)
      ·rw [if_neg c9] at H
       exact absurd H (by simp)
     ·rw [if_neg c8] at H
      exact absurd H (by simp)
    ·rw [if_neg c7] at H
     have c7b0 : decide (x15_1 < (l0.length : Int)) = false := decide_eq_false c7
     clear c7
     replace H := oB.mp H
     obtain ⟨t450, A160, H⟩ := H
     replace H : (if t450 = true then (some (x6_1, true)) else (some (([] : List (S_impl_Peg)), false))) = some (r1, r2) := H
     have A16 := aM A160
     clear A160
     by_cases c17 : t450 = true
     ·subst c17
      have H1 : (some (x6_1, true)) = some (r1, r2) := by rw [if_pos rfl] at H; exact H
      clear H
      have H := H1
      clear H1
      simp only [Option.some.injEq, Prod.mk.injEq] at H
      obtain ⟨rfl, rfl⟩ := H
      obtain ⟨Ao18, co18, eo18⟩ := Kd.R_slice HO_6.out
      subst eo18
      go_wp2_with (first | ((with_reducible refine gC (f := 136) rfl ?_); refine goesL_ (some 27) rfl rfl Try.func136 (by kernel_rfl) rfl #[.slice Ao18 x6_1.length co18] rfl (by (try simp only [mA, mC, mN]); first | done | rfl | (simp only [lD, lT]; rfl)) ?_; (with_reducible refine (impl_arePegs.calls k1 _ _ x6_1 true _ ?side1 ?side2 A16.out).mono ?_); (case side1 => repeat (first | exact (rR HO_6.out).2.2 | (with_reducible refine cA ?_ _) | (with_reducible refine cN ?_ _) | (with_reducible refine cD ?_))); (case side2 => exact (rR HO_6.out).2.1); rintro e w19 ⟨rfl, hb⟩; refine ⟨_, rfl, ?_⟩; have n0_ := aM (Kd.R_below (by (with_reducible repeat (first | apply rA | apply rN | apply rD)); exact HO_6.out) hb); have n1_ := aM (pT (by repeat (first | (with_reducible first | exact HB.out | apply pA | apply pN | apply pD) | exact HB.out)) hb); clear HO_6; clear HB; have HO_6 := n0_; have HB := n1_; clear n0_ n1_; (try clear hb); (try clear hb2); (try clear hk); (try clear hi)))
      go_ret2
      exact ⟨_, by first | rfl | (simp [errW_none, errW_some] <;> rfl) | (simp [*, errW_none, errW_some] <;> rfl), by (with_reducible repeat (first | apply rA | apply rN | apply rD)); exact HO_6.out, by repeat (first | (with_reducible first | exact HB.out | apply pA | apply pN | apply pD) | exact HB.out)⟩
     ·replace c17 := Bool.eq_false_iff.mpr c17
      subst c17
      have H1 : (some (([] : List (S_impl_Peg)), false)) = some (r1, r2) := by rw [if_neg (show ¬ (false = true) by decide)] at H; exact H
      clear H
      have H := H1
      clear H1
      simp only [Option.some.injEq, Prod.mk.injEq] at H
      obtain ⟨rfl, rfl⟩ := H
      obtain ⟨Ao20, co20, eo20⟩ := Kd.R_slice HO_6.out
      subst eo20
      go_wp2_with (first | ((with_reducible refine gC (f := 136) rfl ?_); refine goesL_ (some 27) rfl rfl Try.func136 (by kernel_rfl) rfl #[.slice Ao20 x6_1.length co20] rfl (by (try simp only [mA, mC, mN]); first | done | rfl | (simp only [lD, lT]; rfl)) ?_; (with_reducible refine (impl_arePegs.calls k1 _ _ x6_1 false _ ?side1 ?side2 A16.out).mono ?_); (case side1 => repeat (first | exact (rR HO_6.out).2.2 | (with_reducible refine cA ?_ _) | (with_reducible refine cN ?_ _) | (with_reducible refine cD ?_))); (case side2 => exact (rR HO_6.out).2.1); rintro e w21 ⟨rfl, hb⟩; refine ⟨_, rfl, ?_⟩; have n0_ := aM (Kd.R_below (by (with_reducible repeat (first | apply rA | apply rN | apply rD)); exact HO_6.out) hb); have n1_ := aM (pT (by repeat (first | (with_reducible first | exact HB.out | apply pA | apply pN | apply pD) | exact HB.out)) hb); clear HO_6; clear HB; have HO_6 := n0_; have HB := n1_; clear n0_ n1_; (try clear hb); (try clear hb2); (try clear hk); (try clear hi)))
      go_ret2
      exact ⟨_, by first | rfl | (simp [errW_none, errW_some] <;> rfl) | (simp [*, errW_none, errW_some] <;> rfl), by first | exact Kd.R_nil _ _ _ _ _ | exact Kd.N_nil _ _ _ _ _ | exact Kd.V_nil _ _ _ _ _ | exact Kd.Q_nil _ _ _ _ _ | exact Kd.S_nil _ _ _ _ _, by repeat (first | (with_reducible first | exact HB.out | apply pA | apply pN | apply pD) | exact HB.out)⟩
 ·replace c3 := Bool.eq_false_iff.mpr c3
  subst c3
  have H1 : (some (([] : List (S_impl_Peg)), false)) = some (r1, r2) := by rw [if_neg (show ¬ (false = true) by decide)] at H; exact H
  clear H
  have H := H1
  clear H1
  simp only [Option.some.injEq, Prod.mk.injEq] at H
  obtain ⟨rfl, rfl⟩ := H
  go_enter Try.func100, Try.ntmps100
  go_wp2_with (first | ((with_reducible refine gC (f := 85) rfl ?_); refine goesL_ (some 10) rfl rfl Try.func85 (by kernel_rfl) rfl #[.slice A0 l0.length c0] rfl (by (try simp only [mA, mC, mN]); first | done | rfl | (simp only [lD, lT]; rfl)) ?_; (with_reducible refine (impl_IsPolygon.calls k _ _ l0 false _ ?side1 ?side2 A2.out).mono ?_); (case side1 => repeat (first | exact HR0.out | (with_reducible refine cA ?_ _) | (with_reducible refine cN ?_ _) | (with_reducible refine cD ?_))); (case side2 => exact HC0.out); rintro e w22 ⟨rfl, hb⟩; refine ⟨_, rfl, ?_⟩; have n0_ := aM (pT (by repeat (first | (with_reducible first | exact HB.out | apply pA | apply pN | apply pD) | exact HB.out)) hb); clear HB; have HB := n0_; clear n0_; (try clear hb); (try clear hb2); (try clear hk); (try clear hi)))
  go_ret2
  exact ⟨_, by first | rfl | (simp [errW_none, errW_some] <;> rfl) | (simp [*, errW_none, errW_some] <;> rfl), by first | exact Kd.R_nil _ _ _ _ _ | exact Kd.N_nil _ _ _ _ _ | exact Kd.V_nil _ _ _ _ _ | exact Kd.Q_nil _ _ _ _ _ | exact Kd.S_nil _ _ _ _ _, by repeat (first | (with_reducible first | exact HB.out | apply pA | apply pN | apply pD) | exact HB.out)⟩

def impl_MirrorPolygon.f (k : Nat) (l0 : List (S_impl_Peg)) : Option ((List (S_impl_Peg)) × Bool) := (impl_changed_at_impl_MirrorPolygon_1.f k l0).bind fun bt451 => (some (bt451.1, bt451.2))
theorem impl_MirrorPolygon.mono : ∀ a0 k, LeO (impl_MirrorPolygon.f k a0) (impl_MirrorPolygon.f (k + 1) a0) := by
 intro a0 k
 unfold impl_MirrorPolygon.f
 repeat' first
   | (with_reducible exact impl_changed_at_impl_MirrorPolygon_1.mono _ _)
   | (with_reducible exact LeO.refl _)
   | (with_reducible exact LeO.none _)
   | (with_reducible refine LeO.ite ?_ ?_)
   | (with_reducible refine LeO.bind ?_ (fun _ => ?_))
   | exact impl_changed_at_impl_MirrorPolygon_1.mono _ _
   | exact LeO.none _
   | refine LeO.ite ?_ ?_
   | refine LeO.bind ?_ (fun _ => ?_)
set_option maxHeartbeats 8000000 in
set_option maxRecDepth 100000 in
theorem impl_MirrorPolygon.calls (k : Nat) (A0 : Option Addr) (c0 : Nat) (l0 : List (S_impl_Peg)) (r1 : List (S_impl_Peg)) (r2 : Bool) (w : World) (hr0 : Kd.C kd_impl_Peg w A0 l0.length l0) (hc0 : l0.length ≤ c0) (h : impl_MirrorPolygon.f k l0 = some (r1, r2)) :
  Calls Try.prog 42 #[.slice A0 l0.length c0] w fun e w' => ∃ v0_ : Value, e = .returned (.tuple #[v0_, .bool r2]) ∧ Kd.R kd_impl_Peg 34 w' w.heap.size (fun _ => True) v0_ r1 ∧ Below w.heap.size w w' := by
 have HR0 := aM hr0
 have HC0 := aM hc0
 clear hr0 hc0
 have HB := aM (Below.refl w.heap.size w)
 have H : ((impl_changed_at_impl_MirrorPolygon_1.f k l0).bind fun bt451 => (some (bt451.1, bt451.2))) = some (r1, r2) := h
 clear h
 replace H := oB.mp H
 obtain ⟨⟨t451, t452⟩, A20, H⟩ := H
 replace H : (some (t451, t452)) = some (r1, r2) := H
 have A2 := aM A20
 clear A20
 simp only [Option.some.injEq, Prod.mk.injEq] at H
 obtain ⟨rfl, rfl⟩ := H
 go_enter Try.func42, Try.ntmps42
 go_wp2_with (first | ((with_reducible refine gC (f := 100) rfl ?_); refine goesL_ (some 5) rfl rfl Try.func100 (by kernel_rfl) rfl #[.slice A0 l0.length c0, .func (.func 101) #[] #[]] rfl (by (try simp only [mA, mC, mN]); first | done | rfl | (simp only [lD, lT]; rfl)) ?_; (with_reducible refine (impl_changed_at_impl_MirrorPolygon_1.calls k _ _ l0 t451 t452 _ ?side1 ?side2 A2.out).mono ?_); (case side1 => repeat (first | exact HR0.out | (with_reducible refine cA ?_ _) | (with_reducible refine cN ?_ _) | (with_reducible refine cD ?_))); (case side2 => exact HC0.out); rintro e w3 ⟨v453, rfl, ho0, hb⟩; refine ⟨_, rfl, ?_⟩; have n0_ := aM (Kd.R_lower ho0 (pZ (by repeat (first | (with_reducible first | exact HB.out | apply pA | apply pN | apply pD) | exact HB.out)))); have n1_ := aM (pT (by repeat (first | (with_reducible first | exact HB.out | apply pA | apply pN | apply pD) | exact HB.out)) hb); clear HB; have HO454 := n0_; have HB := n1_; clear n0_ n1_; (try clear hb); (try clear hb2); (try clear hk); (try clear hi); (try clear ho0)))
 go_ret2
 exact ⟨_, by first | rfl | (simp [errW_none, errW_some] <;> rfl) | (simp [*, errW_none, errW_some] <;> rfl), by (with_reducible repeat (first | apply rA | apply rN | apply rD)); exact HO454.out, by repeat (first | (with_reducible first | exact HB.out | apply pA | apply pN | apply pD) | exact HB.out)⟩

end Go.Proofs.Ytiacfkilmknldaa.X
