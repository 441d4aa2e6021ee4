-- thin
-- short
import Derived.Test.YtiacfkilmknldaaXA
import Derived.Test.YtiacfkilmknldaaX0
import Derived.Test.YtiacfkilmknldaaX4
import Derived.Test.YtiacfkilmknldaaX15
namespace Go.Proofs.Ytiacfkilmknldaa.X
open Go.RowKit Go.Proofs.Ytiacfkilmknldaa.XW Go.Proofs.YtiacfkilmknldaaW.PrintWords Go.Proofs.YtiacfkilmknldaaW.PrintLast Go.Proofs.YtiacfkilmknldaaW.PrintMore
attribute [local go_sem] max2_int min2_int max_two min_two max_three min_three max_four min_four   -- for this text's walks alone
set_option linter.unusedVariables false
set_option linter.unusedSimpArgs false

mutual
def spec_pgList.l0 : Nat → List (S_impl_Peg) → List (S_impl_Peg) → Int → Option ((List (S_impl_Peg)))
 | 0, _, _, _ => none
 | k + 1, x0, x3, x4 => if x4 ≤ 40 then (spec_pgList.l1 k x0 x3 x4 (-40)) else (some x3)
def spec_pgList.l1 : Nat → List (S_impl_Peg) → List (S_impl_Peg) → Int → Int → Option ((List (S_impl_Peg)))
 | 0, _, _, _, _ => none
 | k + 1, x0, x3, x4, x5 => if x5 ≤ 40 then ((spec_pgWhere.f k x0 x4 x5).bind fun t991 => (if t991 > 0 then (if x3.length < 8796093022208 then (spec_pgList.l1 k x0 (x3 ++ [(⟨x4, x5⟩ : S_impl_Peg)]) x4 (wrap64 (x5 + 1))) else (none)) else (spec_pgList.l1 k x0 x3 x4 (wrap64 (x5 + 1))))) else (spec_pgList.l0 k x0 x3 (wrap64 (x4 + 1)))
end
def spec_pgList.f (k : Nat) (l0 : List (S_impl_Peg)) : Option ((List (S_impl_Peg))) := spec_pgList.l0 k l0 ([] : List (S_impl_Peg)) (-40)
theorem spec_pgList.mono_l : ∀ k, (∀ y0 y1 y2, LeO (spec_pgList.l0 k y0 y1 y2) (spec_pgList.l0 (k + 1) y0 y1 y2)) ∧ (∀ y0 y1 y2 y3, LeO (spec_pgList.l1 k y0 y1 y2 y3) (spec_pgList.l1 (k + 1) y0 y1 y2 y3))
 | 0 => ⟨fun _ _ _ r h => by simp [spec_pgList.l0] at h, fun _ _ _ _ r h => by simp [spec_pgList.l1] at h⟩
 | k + 1 => by
  obtain ⟨ih0, ih1⟩ := spec_pgList.mono_l k
  refine ⟨?_, ?_⟩
  ·intro y0 y1 y2
   unfold spec_pgList.l0
   repeat' first
   | (with_reducible exact ih0 _ _ _)
   | (with_reducible exact ih1 _ _ _ _)
   | (with_reducible exact spec_pgWhere.mono _ _ _ _)
   | (with_reducible exact LeO.refl _)
   | (with_reducible exact LeO.none _)
   | (with_reducible refine LeO.ite ?_ ?_)
   | (with_reducible refine LeO.bind ?_ (fun _ => ?_))
   | exact ih0 _ _ _
   | exact ih1 _ _ _ _
   | exact spec_pgWhere.mono _ _ _ _
   | exact LeO.none _
   | refine LeO.ite ?_ ?_
   | refine LeO.bind ?_ (fun _ => ?_)
  ·intro y0 y1 y2 y3
   unfold spec_pgList.l1
   repeat' first
   | (with_reducible exact ih0 _ _ _)
   | (with_reducible exact ih1 _ _ _ _)
   | (with_reducible exact spec_pgWhere.mono _ _ _ _)
   | (with_reducible exact LeO.refl _)
   | (with_reducible exact LeO.none _)
   | (with_reducible refine LeO.ite ?_ ?_)
   | (with_reducible refine LeO.bind ?_ (fun _ => ?_))
   | exact ih0 _ _ _
   | exact ih1 _ _ _ _
   | exact spec_pgWhere.mono _ _ _ _
   | exact LeO.none _
   | refine LeO.ite ?_ ?_
   | refine LeO.bind ?_ (fun _ => ?_)
theorem spec_pgList.mono : ∀ a0 k, LeO (spec_pgList.f k a0) (spec_pgList.f (k + 1) a0) := by
 intro a0 k
 obtain ⟨ih0, ih1⟩ := spec_pgList.mono_l k
 unfold spec_pgList.f
 repeat' first
   | (with_reducible exact ih0 _ _ _)
   | (with_reducible exact ih1 _ _ _ _)
   | (with_reducible exact spec_pgWhere.mono _ _ _ _)
   | (with_reducible exact LeO.refl _)
   | (with_reducible exact LeO.none _)
   | (with_reducible refine LeO.ite ?_ ?_)
   | (with_reducible refine LeO.bind ?_ (fun _ => ?_))
   | exact ih0 _ _ _
   | exact ih1 _ _ _ _
   | exact spec_pgWhere.mono _ _ _ _
   | exact LeO.none _
   | refine LeO.ite ?_ ?_
   | refine LeO.bind ?_ (fun _ => ?_)
set_option maxHeartbeats 8000000 in
set_option maxRecDepth 100000 in
theorem spec_pgList.calls (k : Nat) (A0 : Option Addr) (c0 : Nat) (l0 : List (S_impl_Peg)) (r : List (S_impl_Peg)) (w : World) (hr0 : Kd.C kd_impl_Peg w A0 l0.length l0) (hc0 : l0.length ≤ c0) (h : spec_pgList.f k l0 = some r) :
  Calls Try.prog 132 #[.slice A0 l0.length c0] w fun e w' => ∃ v0_ : Value, e = .returned (v0_) ∧ Kd.R kd_impl_Peg 34 w' w.heap.size (fun _ => True) v0_ r ∧ Below w.heap.size w w' := by
 have hu34 := Try.underlying34
 have HR0 := aM hr0
 have HC0 := aM hc0
 clear hr0 hc0
 have HB := aM (Below.refl w.heap.size w)
 have H : (spec_pgList.l0 k l0 ([] : List (S_impl_Peg)) (-40)) = some r := h
 clear h
 have H' := aM H
 clear H
 go_enter Try.func132, Try.ntmps132
 go_wp2
 go_loopg [3, 4] k (fun kq v3 v4 w' => ∃ (x3_1 : List (S_impl_Peg)) (x4_1 : Int), v4 = .int .i64 x4_1 ∧ Aside0 (spec_pgList.l0 kq l0 x3_1 x4_1 = some r) ∧ Aside0 (kq ≤ k) ∧ Aside0 (Kd.R kd_impl_Peg 34 w' w.heap.size (fun _ => True) v3 x3_1) ∧ Aside0 (Below w.heap.size w w'))
 case atStart => exact ⟨(([] : List (S_impl_Peg))), ((-40)), eQ, H', ⟨Nat.le_refl _⟩, ⟨by first | exact Kd.R_nil _ _ _ _ _ | exact Kd.N_nil _ _ _ _ _ | exact Kd.V_nil _ _ _ _ _ | exact Kd.Q_nil _ _ _ _ _ | exact Kd.S_nil _ _ _ _ _⟩, ⟨bQ⟩⟩
 case round =>
  clear H'
  try clear c1
  obtain ⟨x3_1, x4_1, rfl, HA, HK1, HO_3, HB⟩ := hrel
  cases gk with
  | zero => exact absurd HA.out (by simp [spec_pgList.l0])
  | succ k1 =>
   have H := HA.out
   clear HA
   simp only [spec_pgList.l0] at H
   by_cases c2 : x4_1 ≤ 40
   ·rw [if_pos c2] at H
    have c2b0 : decide (x4_1 ≤ 40) = true := dE c2
    clear c2
    have H' := aM H
    clear H
    go_wp2
    go_loopg [3, 5] k1 (fun kq v3 v5 w' => ∃ (x3_2 : List (S_impl_Peg)) (x5_2 : Int), v5 = .int .i64 x5_2 ∧ Aside0 (spec_pgList.l1 kq l0 x3_2 x4_1 x5_2 = some r) ∧ Aside0 (kq ≤ k1) ∧ Aside0 (Kd.R kd_impl_Peg 34 w' w.heap.size (fun _ => True) v3 x3_2) ∧ Aside0 (Below w.heap.size w w'))
    case atStart => exact ⟨(x3_1), ((-40)), eQ, H', ⟨Nat.le_refl _⟩, ⟨by (with_reducible repeat (first | apply rA | apply rN | apply rD)); exact HO_3.out⟩, ⟨bQ⟩⟩
    case round =>
     clear H'
     try clear c1
     try clear c2
     try clear c2b0
     try clear p2
     obtain ⟨x3_2, x5_2, rfl, HA, HK2, HO_3, HB⟩ := hrel
     cases gk with
     | zero => exact absurd HA.out (by simp [spec_pgList.l1])
     | succ k2 =>
      have H := HA.out
      clear HA
      simp only [spec_pgList.l1] at H
      by_cases c3 : x5_2 ≤ 40
      ·rw [if_pos c3] at H
       have c3b0 : decide (x5_2 ≤ 40) = true := dE c3
       clear c3
       replace H := oB.mp H
       obtain ⟨t991, A40, H⟩ := H
       replace H : (if t991 > 0 then (if x3_2.length < 8796093022208 then (spec_pgList.l1 k2 l0 (x3_2 ++ [(⟨x4_1, x5_2⟩ : S_impl_Peg)]) x4_1 (wrap64 (x5_2 + 1))) else (none)) else (spec_pgList.l1 k2 l0 x3_2 x4_1 (wrap64 (x5_2 + 1)))) = some r := H
       have A4 := aM A40
       clear A40
       by_cases c5 : t991 > 0
       ·rw [if_pos c5] at H
        have c5b0 : decide (0 < t991) = true := dE c5
        clear c5
        by_cases c6 : x3_2.length < 8796093022208
        ·rw [if_pos c6] at H
         have LMc6 := aM c6
         clear c6
         obtain ⟨y992, hy992⟩ : ∃ y_ : List (S_impl_Peg), y_ = (x3_2 ++ [(⟨x4_1, x5_2⟩ : S_impl_Peg)]) := ⟨_, rfl⟩
         replace H : (spec_pgList.l1 k2 l0 y992 x4_1 (wrap64 (x5_2 + 1))) = some r := by first | (rw [hy992]; with_reducible exact H) | (have H2_ := (Option.bind_some _ _).symm.trans H; rw [hy992]; with_reducible exact H2_) | (have H2_ := (Option.bind_some _ _).symm.trans H; with_reducible exact H2_) | with_reducible exact H | (rw [hy992]; exact H) | exact H
         have Ny992 := aM hy992
         clear hy992
         have H' := aM H
         clear H
         go_wp2_with (first | ((with_reducible refine gate_dst (N := 6) rfl ?_); refine box_event ?hg (N := 6) ?hd (cs := #[.int .i64 0, .int .i64 0]) (t := 34) ?hr ?_; (case hd => rfl); (case hg => rfl); (case hr => first | (go_simp; done) | (go_simp; rfl)); intro gb990 hg w7 hbox hb; have n0_ := aM (Kd.R_below (Kd.R_elderB (rQ HO_3) gb990 (Nat.le_of_eq hg.symm)) hb); have n1_ := aM (pT bQ hb); have n2_ := aM (hbox); have n3_ := aM ((by rw [hg]; exact (pZ bQ) : w.heap.size ≤ gb990)); have n4_ := aM ((by rw [hg]; exact (pZ bQ) : w.heap.size ≤ gb990)); clear HO_3; clear HB; have HO_3 := n0_; have HB := n1_; have BK990 := n2_; have GW990 := n3_; have GE990 := n4_; clear n0_ n1_ n2_ n3_ n4_; clear hb hbox hg; have hcz8_0 : w7.cell? ⟨gb990, 0, none⟩ = some (.int .i64 0) := (kC BK990.out 0).trans rfl; have hcz8_1 : w7.cell? ⟨gb990, 1, none⟩ = some (.int .i64 0) := (kC BK990.out 1).trans rfl; have hfz8_0 := kF BK990.out 0; have hfz8_1 := kF BK990.out 1) | ((with_reducible refine gC (f := 88) rfl ?_); refine goesL_ (some 20) rfl rfl Try.func88 kR rfl #[.slice A0 l0.length c0, .agg #[.int .i64 x4_1, .int .i64 x5_2]] rfl sQ ?_; (with_reducible refine (spec_pgWhere.calls k2 _ _ l0 x4_1 x5_2 t991 _ ?side1 ?side2 A4.out).mono ?_); (case side1 => exact Kd.C_below HR0.out (by repeat (first | (with_reducible first | exact HB.out | apply pA | apply pN | apply pD | refine pS ?_ GE990.out) | exact HB.out))); (case side2 => exact HC0.out); rintro e w9 ⟨rfl, hb⟩; refine ⟨_, rfl, ?_⟩; have n0_ := aM (Kd.R_below (by (with_reducible repeat (first | apply rA | apply rN | apply rD)); exact (Kd.R_mono (Kd.R_far (p := ⟨gb990, 1, none⟩) (Kd.R_far (p := ⟨gb990, 0, none⟩) (Kd.R_mono HO_3.out (fun k_ hk => (⟨hk, hk.2⟩ : _ ∧ k_ ≠ gb990))) (fun _ hk => hk.2) (.int .i64 x4_1)) (fun _ hk => hk.2) (.int .i64 x5_2)) (fun _ h_ => h_.1))) hb); have n1_ := aM (blk_below (g := gb990) (o := .cells #[.int .i64 x4_1, .int .i64 x5_2] 34 (0, 0)) (by (with_reducible repeat (first | refine kN ?_ _ | refine kD ?_ | refine kA ?_ _)); refine blk_put (cs := #[.int .i64 x4_1, .int .i64 0]) ?_ 1 _ rfl; (with_reducible repeat (first | refine kN ?_ _ | refine kD ?_ | refine kA ?_ _)); refine blk_put (cs := #[.int .i64 0, .int .i64 0]) ?_ 0 _ rfl; (with_reducible repeat (first | refine kN ?_ _ | refine kD ?_ | refine kA ?_ _)); exact BK990.out) hb); have n2_ := aM (pT (by repeat (first | (with_reducible first | exact HB.out | apply pA | apply pN | apply pD | refine pS ?_ GE990.out) | exact HB.out)) hb); clear HO_3; clear BK990; clear HB; have HO_3 := n0_; have BK990 := n1_; have HB := n2_; clear n0_ n1_ n2_; (try clear hb); (try clear hb2); (try clear hk); (try clear hi); have hcz10_0 : w9.cell? ⟨gb990, 0, none⟩ = some (.int .i64 x4_1) := (kC BK990.out 0).trans rfl; have hcz10_1 : w9.cell? ⟨gb990, 1, none⟩ = some (.int .i64 x5_2) := (kC BK990.out 1).trans rfl; have hfz10_0 := kF BK990.out 0; have hfz10_1 := kF BK990.out 1) | ((with_reducible refine gate_builtin (b := .append) (xs := #[.tmp 22, .tmp 24]) rfl ?_); at_builtin; refine Kd.R_append kd_impl_Peg (w0 := w) w.heap.size rfl (.tmp 22) (.tmp 24) 26 34 (.agg #[(.int .i64 0), (.int .i64 0)]) 16 rfl Try.underlying26 info34 rfl (by decide) (by omega) u3 x3_2 (⟨x4_1, x5_2⟩ : S_impl_Peg) [.int .i64 x4_1, .int .i64 x5_2] (fun k_ => k_ ≠ gb990) (fun _ => False) rfl rfl ?aP (fun _ hk => hk.elim) ?aF ?aO ?aB ?aS ?aL ?_; (case aP => exact kd_impl_Peg_mkM _ _ _ (⟨x4_1, x5_2⟩ : S_impl_Peg)); (case aB => exact (by repeat (first | (with_reducible first | exact HB.out | apply pA | apply pN | apply pD | refine pS ?_ GE990.out) | exact HB.out))); (case aF => exact (fun k_ hk => Kd.freshB (g := gb990) (o := .cells #[.int .i64 x4_1, .int .i64 x5_2] 34 (0, 0)) (gQ BK990) k_ hk)); (case aO => exact (by (with_reducible repeat (first | apply rA | apply rN | apply rD)); exact Kd.R_mono HO_3.out (fun _ hk => hk.2))); (case aS => exact (pZ (by repeat (first | (with_reducible first | exact HB.out | apply pA | apply pN | apply pD | refine pS ?_ GE990.out) | exact HB.out)))); (case aL => have := LMc6.out; omega); intro v993 w11 ho hb hg hat; rw [← Ny992.out] at ho; have n0_ := aM (blk_grown (g := gb990) (o := .cells #[.int .i64 x4_1, .int .i64 x5_2] 34 (0, 0)) (gQ BK990) hg (Kd.R_away HO_3.out (fun _ hk => hk.2))); have n1_ := aM (hb); have n2_ := aM (ho); clear BK990; clear HB; clear HO_3; have BK990 := n0_; have HB := n1_; have HO994 := n2_; clear n0_ n1_ n2_; clear ho hb hg hat))
         go_roundg k2
         case measure => have := HK1.out; have := HK2.out; omega
         case rel => exact ⟨(y992), (wrap64 (x5_2 + 1)), eQ, H', ⟨by have := HK1.out; have := HK2.out; omega⟩, ⟨by (with_reducible repeat (first | apply rA | apply rN | apply rD)); exact Kd.R_mono HO994.out (fun _ hk => trivial)⟩, ⟨by repeat (first | (with_reducible first | exact HB.out | apply pA | apply pN | apply pD | refine pS ?_ GE990.out) | exact HB.out)⟩⟩
        ·rw [if_neg c6] at H
         exact absurd H (by simp)
       ·rw [if_neg c5] at H
        have c5b0 : decide (0 < t991) = false := decide_eq_false c5
        clear c5
        have H' := aM H
        clear H
        go_wp2_with (first | ((with_reducible refine gate_dst (N := 6) rfl ?_); refine box_event ?hg (N := 6) ?hd (cs := #[.int .i64 0, .int .i64 0]) (t := 34) ?hr ?_; (case hd => rfl); (case hg => rfl); (case hr => first | (go_simp; done) | (go_simp; rfl)); intro gb990 hg w12 hbox hb; have n0_ := aM (Kd.R_below (Kd.R_elderB (rQ HO_3) gb990 (Nat.le_of_eq hg.symm)) hb); have n1_ := aM (pT bQ hb); have n2_ := aM (hbox); have n3_ := aM ((by rw [hg]; exact (pZ bQ) : w.heap.size ≤ gb990)); have n4_ := aM ((by rw [hg]; exact (pZ bQ) : w.heap.size ≤ gb990)); clear HO_3; clear HB; have HO_3 := n0_; have HB := n1_; have BK990 := n2_; have GW990 := n3_; have GE990 := n4_; clear n0_ n1_ n2_ n3_ n4_; clear hb hbox hg; have hcz13_0 : w12.cell? ⟨gb990, 0, none⟩ = some (.int .i64 0) := (kC BK990.out 0).trans rfl; have hcz13_1 : w12.cell? ⟨gb990, 1, none⟩ = some (.int .i64 0) := (kC BK990.out 1).trans rfl; have hfz13_0 := kF BK990.out 0; have hfz13_1 := kF BK990.out 1) | ((with_reducible refine gC (f := 88) rfl ?_); refine goesL_ (some 20) rfl rfl Try.func88 kR rfl #[.slice A0 l0.length c0, .agg #[.int .i64 x4_1, .int .i64 x5_2]] rfl sQ ?_; (with_reducible refine (spec_pgWhere.calls k2 _ _ l0 x4_1 x5_2 t991 _ ?side1 ?side2 A4.out).mono ?_); (case side1 => exact Kd.C_below HR0.out (by repeat (first | (with_reducible first | exact HB.out | apply pA | apply pN | apply pD | refine pS ?_ GE990.out) | exact HB.out))); (case side2 => exact HC0.out); rintro e w14 ⟨rfl, hb⟩; refine ⟨_, rfl, ?_⟩; have n0_ := aM (Kd.R_below (by (with_reducible repeat (first | apply rA | apply rN | apply rD)); exact (Kd.R_mono (Kd.R_far (p := ⟨gb990, 1, none⟩) (Kd.R_far (p := ⟨gb990, 0, none⟩) (Kd.R_mono HO_3.out (fun k_ hk => (⟨hk, hk.2⟩ : _ ∧ k_ ≠ gb990))) (fun _ hk => hk.2) (.int .i64 x4_1)) (fun _ hk => hk.2) (.int .i64 x5_2)) (fun _ h_ => h_.1))) hb); have n1_ := aM (blk_below (g := gb990) (o := .cells #[.int .i64 x4_1, .int .i64 x5_2] 34 (0, 0)) (by (with_reducible repeat (first | refine kN ?_ _ | refine kD ?_ | refine kA ?_ _)); refine blk_put (cs := #[.int .i64 x4_1, .int .i64 0]) ?_ 1 _ rfl; (with_reducible repeat (first | refine kN ?_ _ | refine kD ?_ | refine kA ?_ _)); refine blk_put (cs := #[.int .i64 0, .int .i64 0]) ?_ 0 _ rfl; (with_reducible repeat (first | refine kN ?_ _ | refine kD ?_ | refine kA ?_ _)); exact BK990.out) hb); have n2_ := aM (pT (by repeat (first | (with_reducible first | exact HB.out | apply pA | apply pN | apply pD | refine pS ?_ GE990.out) | exact HB.out)) hb); clear HO_3; clear BK990; clear HB; have HO_3 := n0_; have BK990 := n1_; have HB := n2_; clear n0_ n1_ n2_; (try clear hb); (try clear hb2); (try clear hk); (try clear hi)))
        go_roundg k2
        case measure => have := HK1.out; have := HK2.out; omega
        case rel => exact ⟨(x3_2), (wrap64 (x5_2 + 1)), eQ, H', ⟨by have := HK1.out; have := HK2.out; omega⟩, ⟨by (with_reducible repeat (first | apply rA | apply rN | apply rD)); exact Kd.R_mono HO_3.out (fun _ hk => trivial)⟩, ⟨by repeat (first | (with_reducible first | exact HB.out | apply pA | apply pN | apply pD | refine pS ?_ GE990.out) | exact HB.out)⟩⟩
      ·rw [if_neg c3] at H
       have c3b0 : decide (x5_2 ≤ 40) = false := decide_eq_false c3
       clear c3
       have H' := aM H
       clear H
       go_wp2
       go_roundg k2
       case measure => have := HK1.out; have := HK2.out; omega
       case rel => exact ⟨(x3_2), (wrap64 (x4_1 + 1)), eQ, H', ⟨by have := HK1.out; have := HK2.out; omega⟩, ⟨by (with_reducible repeat (first | apply rA | apply rN | apply rD)); exact HO_3.out⟩, ⟨bQ⟩⟩
   ·rw [if_neg c2] at H
    have c2b0 : decide (x4_1 ≤ 40) = false := decide_eq_false c2
    clear c2
    obtain rfl := Option.some.inj H
    go_wp2
    go_ret
    exact ⟨_, by first | rfl | (simp [errW_none, errW_some] <;> rfl) | (simp [*, errW_none, errW_some] <;> rfl), by (with_reducible repeat (first | apply rA | apply rN | apply rD)); exact HO_3.out, bQ⟩

def spec_ListInside.f (k : Nat) (l0 : List (S_impl_Peg)) : Option ((List (S_impl_Peg)) × Bool) := (spec_pgGood.f k l0).bind fun t995 => (if t995 = true then ((spec_pgList.f k l0).bind fun t996 => (some (t996, true))) else (some (([] : List (S_impl_Peg)), false)))
theorem spec_ListInside.mono : ∀ a0 k, LeO (spec_ListInside.f k a0) (spec_ListInside.f (k + 1) a0) := by
 intro a0 k
 unfold spec_ListInside.f
 repeat' first
   | (with_reducible exact spec_pgGood.mono _ _)
   | (with_reducible exact spec_pgList.mono _ _)
   | (with_reducible exact LeO.refl _)
   | (with_reducible exact LeO.none _)
   | (with_reducible refine LeO.ite ?_ ?_)
   | (with_reducible refine LeO.bind ?_ (fun _ => ?_))
   | exact spec_pgGood.mono _ _
   | exact spec_pgList.mono _ _
   | exact LeO.none _
   | refine LeO.ite ?_ ?_
   | refine LeO.bind ?_ (fun _ => ?_)
set_option maxHeartbeats 8000000 in
set_option maxRecDepth 100000 in
theorem spec_ListInside.calls (k : Nat) (A0 : Option Addr) (c0 : Nat) (l0 : List (S_impl_Peg)) (r1 : List (S_impl_Peg)) (r2 : Bool) (w : World) (hr0 : Kd.C kd_impl_Peg w A0 l0.length l0) (hc0 : l0.length ≤ c0) (h : spec_ListInside.f k l0 = some (r1, r2)) :
  Calls Try.prog 76 #[.slice A0 l0.length c0] w fun e w' => ∃ v0_ : Value, e = .returned (.tuple #[v0_, .bool r2]) ∧ Kd.R kd_impl_Peg 34 w' w.heap.size (fun _ => True) v0_ r1 ∧ Below w.heap.size w w' := by
 have HR0 := aM hr0
 have HC0 := aM hc0
 clear hr0 hc0
 have HB := aM (Below.refl w.heap.size w)
 have H : ((spec_pgGood.f k l0).bind fun t995 => (if t995 = true then ((spec_pgList.f k l0).bind fun t996 => (some (t996, true))) else (some (([] : List (S_impl_Peg)), false)))) = some (r1, r2) := h
 clear h
 replace H := oB.mp H
 obtain ⟨t995, A20, H⟩ := H
 replace H : (if t995 = true then ((spec_pgList.f k l0).bind fun t996 => (some (t996, true))) else (some (([] : List (S_impl_Peg)), false))) = some (r1, r2) := H
 have A2 := aM A20
 clear A20
 by_cases c3 : t995 = true
 ·subst c3
  have H1 : ((spec_pgList.f k l0).bind fun t996 => (some (t996, true))) = some (r1, r2) := by rw [if_pos rfl] at H; exact H
  clear H
  have H := H1
  clear H1
  replace H := oB.mp H
  obtain ⟨t996, A40, H⟩ := H
  replace H : (some (t996, true)) = some (r1, r2) := H
  have A4 := aM A40
  clear A40
  simp only [Option.some.injEq, Prod.mk.injEq] at H
  obtain ⟨rfl, rfl⟩ := H
  go_enter Try.func76, Try.ntmps76
  go_wp2_with (first | ((with_reducible refine gC (f := 83) rfl ?_); refine goesL_ (some 5) rfl rfl Try.func83 kR rfl #[.slice A0 l0.length c0] rfl sQ ?_; (with_reducible refine (spec_pgGood.calls k _ _ l0 true _ ?side1 ?side2 A2.out).mono ?_); (case side1 => repeat (first | exact HR0.out | (with_reducible refine cA ?_ _) | (with_reducible refine cN ?_ _) | (with_reducible refine cD ?_))); (case side2 => exact HC0.out); rintro e w5 ⟨rfl, hb⟩; refine ⟨_, rfl, ?_⟩; have n0_ := aM (pT bQ hb); clear HB; have HB := n0_; clear n0_; (try clear hb); (try clear hb2); (try clear hk); (try clear hi)) | ((with_reducible refine gC (f := 132) rfl ?_); refine goesL_ (some 8) rfl rfl Try.func132 kR rfl #[.slice A0 l0.length c0] rfl sQ ?_; (with_reducible refine (spec_pgList.calls k _ _ l0 t996 _ ?side1 ?side2 A4.out).mono ?_); (case side1 => repeat (first | exact (Kd.C_below HR0.out HB.out) | (with_reducible refine cA ?_ _) | (with_reducible refine cN ?_ _) | (with_reducible refine cD ?_))); (case side2 => exact HC0.out); rintro e w6 ⟨v997, rfl, ho0, hb⟩; refine ⟨_, rfl, ?_⟩; have n0_ := aM (Kd.R_lower ho0 (pZ bQ)); have n1_ := aM (pT bQ hb); clear HB; have HO998 := n0_; have HB := n1_; clear n0_ n1_; (try clear hb); (try clear hb2); (try clear hk); (try clear hi); (try clear ho0)))
  go_ret2
  exact ⟨_, by first | rfl | (simp [errW_none, errW_some] <;> rfl) | (simp [*, errW_none, errW_some] <;> rfl), by (with_reducible repeat (first | apply rA | apply rN | apply rD)); exact HO998.out, bQ⟩
 ·replace c3 := Bool.eq_false_iff.mpr c3
  subst c3
  have H1 : (some (([] : List (S_impl_Peg)), false)) = some (r1, r2) := by rw [if_neg (show ¬ (false = true) by decide)] at H; exact H
  clear H
  have H := H1
  clear H1
  simp only [Option.some.injEq, Prod.mk.injEq] at H
  obtain ⟨rfl, rfl⟩ := H
  go_enter Try.func76, Try.ntmps76
  go_wp2_with (first | ((with_reducible refine gC (f := 83) rfl ?_); refine goesL_ (some 5) rfl rfl Try.func83 kR rfl #[.slice A0 l0.length c0] rfl sQ ?_; (with_reducible refine (spec_pgGood.calls k _ _ l0 false _ ?side1 ?side2 A2.out).mono ?_); (case side1 => repeat (first | exact HR0.out | (with_reducible refine cA ?_ _) | (with_reducible refine cN ?_ _) | (with_reducible refine cD ?_))); (case side2 => exact HC0.out); rintro e w7 ⟨rfl, hb⟩; refine ⟨_, rfl, ?_⟩; have n0_ := aM (pT bQ hb); clear HB; have HB := n0_; clear n0_; (try clear hb); (try clear hb2); (try clear hk); (try clear hi)))
  go_ret2
  exact ⟨_, by first | rfl | (simp [errW_none, errW_some] <;> rfl) | (simp [*, errW_none, errW_some] <;> rfl), by first | exact Kd.R_nil _ _ _ _ _ | exact Kd.N_nil _ _ _ _ _ | exact Kd.V_nil _ _ _ _ _ | exact Kd.Q_nil _ _ _ _ _ | exact Kd.S_nil _ _ _ _ _, bQ⟩

end Go.Proofs.Ytiacfkilmknldaa.X
