-- thin
-- short
import Derived.Test.YtiacfkilmknldaaXA
import Derived.Test.YtiacfkilmknldaaX0
import Derived.Test.YtiacfkilmknldaaX10
import Derived.Test.YtiacfkilmknldaaX17
import Derived.Test.YtiacfkilmknldaaX60
namespace Go.Proofs.Ytiacfkilmknldaa.X
open Go.RowKit Go.Proofs.Ytiacfkilmknldaa.XW Go.Proofs.YtiacfkilmknldaaW.PrintWords Go.Proofs.YtiacfkilmknldaaW.PrintLast Go.Proofs.YtiacfkilmknldaaW.PrintMore
attribute [local go_sem] max2_int min2_int max_two min_two max_three min_three max_four min_four   -- for this text's walks alone
set_option linter.unusedVariables false
set_option linter.unusedSimpArgs false

mutual
def impl_ListInside.l0 : Nat → List (S_impl_Peg) → List (S_impl_Peg) → Int → Int → Int → Int → Int → Option ((List (S_impl_Peg)) × Bool)
 | 0, _, _, _, _, _, _, _ => none
 | k + 1, x0, x4, x7, x1016000, x1016001, x1017000, x1017001 => if x7 ≤ x1017000 then (impl_ListInside.l1 k x0 x4 x7 x1016001 x1016000 x1016001 x1017000 x1017001) else (some (x4, true))
def impl_ListInside.l1 : Nat → List (S_impl_Peg) → List (S_impl_Peg) → Int → Int → Int → Int → Int → Int → Option ((List (S_impl_Peg)) × Bool)
 | 0, _, _, _, _, _, _, _, _ => none
 | k + 1, x0, x4, x7, x8, x1016000, x1016001, x1017000, x1017001 => if x8 ≤ x1017001 then ((impl_where.f k x0 x7 x8).bind fun t1018 => (if t1018 > 0 then (if x4.length < 8796093022208 then (impl_ListInside.l1 k x0 (x4 ++ [(⟨x7, x8⟩ : S_impl_Peg)]) x7 (wrap64 (x8 + 1)) x1016000 x1016001 x1017000 x1017001) else (none)) else (impl_ListInside.l1 k x0 x4 x7 (wrap64 (x8 + 1)) x1016000 x1016001 x1017000 x1017001))) else (impl_ListInside.l0 k x0 x4 (wrap64 (x7 + 1)) x1016000 x1016001 x1017000 x1017001)
end
def impl_ListInside.f (k : Nat) (l0 : List (S_impl_Peg)) : Option ((List (S_impl_Peg)) × Bool) := (impl_IsPolygon.f k l0).bind fun t1007 => (if t1007 = true then ((impl_box.f k l0).bind fun bt1011 => (impl_ListInside.l0 k l0 (([] : List (S_impl_Peg))) bt1011.1 bt1011.1 bt1011.2.1 bt1011.2.2.1 bt1011.2.2.2)) else (some (([] : List (S_impl_Peg)), false)))
theorem impl_ListInside.mono_l : ∀ k, (∀ y0 y1 y2 y3 y4 y5 y6, LeO (impl_ListInside.l0 k y0 y1 y2 y3 y4 y5 y6) (impl_ListInside.l0 (k + 1) y0 y1 y2 y3 y4 y5 y6)) ∧ (∀ y0 y1 y2 y3 y4 y5 y6 y7, LeO (impl_ListInside.l1 k y0 y1 y2 y3 y4 y5 y6 y7) (impl_ListInside.l1 (k + 1) y0 y1 y2 y3 y4 y5 y6 y7))
 | 0 => ⟨fun _ _ _ _ _ _ _ r h => by simp [impl_ListInside.l0] at h, fun _ _ _ _ _ _ _ _ r h => by simp [impl_ListInside.l1] at h⟩
 | k + 1 => by
  obtain ⟨ih0, ih1⟩ := impl_ListInside.mono_l k
  refine ⟨?_, ?_⟩
  ·intro y0 y1 y2 y3 y4 y5 y6
   unfold impl_ListInside.l0
   repeat' first
   | (with_reducible exact ih0 _ _ _ _ _ _ _)
   | (with_reducible exact ih1 _ _ _ _ _ _ _ _)
   | (with_reducible exact impl_IsPolygon.mono _ _)
   | (with_reducible exact impl_box.mono _ _)
   | (with_reducible exact impl_where.mono _ _ _ _)
   | (with_reducible exact LeO.refl _)
   | (with_reducible exact LeO.none _)
   | (with_reducible refine LeO.ite ?_ ?_)
   | (with_reducible refine LeO.bind ?_ (fun _ => ?_))
   | exact ih0 _ _ _ _ _ _ _
   | exact ih1 _ _ _ _ _ _ _ _
   | exact impl_IsPolygon.mono _ _
   | exact impl_box.mono _ _
   | exact impl_where.mono _ _ _ _
   | exact LeO.none _
   | refine LeO.ite ?_ ?_
   | refine LeO.bind ?_ (fun _ => ?_)
  ·intro y0 y1 y2 y3 y4 y5 y6 y7
   unfold impl_ListInside.l1
   repeat' first
   | (with_reducible exact ih0 _ _ _ _ _ _ _)
   | (with_reducible exact ih1 _ _ _ _ _ _ _ _)
   | (with_reducible exact impl_IsPolygon.mono _ _)
   | (with_reducible exact impl_box.mono _ _)
   | (with_reducible exact impl_where.mono _ _ _ _)
   | (with_reducible exact LeO.refl _)
   | (with_reducible exact LeO.none _)
   | (with_reducible refine LeO.ite ?_ ?_)
   | (with_reducible refine LeO.bind ?_ (fun _ => ?_))
   | exact ih0 _ _ _ _ _ _ _
   | exact ih1 _ _ _ _ _ _ _ _
   | exact impl_IsPolygon.mono _ _
   | exact impl_box.mono _ _
   | exact impl_where.mono _ _ _ _
   | exact LeO.none _
   | refine LeO.ite ?_ ?_
   | refine LeO.bind ?_ (fun _ => ?_)
theorem impl_ListInside.mono : ∀ a0 k, LeO (impl_ListInside.f k a0) (impl_ListInside.f (k + 1) a0) := by
 intro a0 k
 obtain ⟨ih0, ih1⟩ := impl_ListInside.mono_l k
 unfold impl_ListInside.f
 repeat' first
   | (with_reducible exact ih0 _ _ _ _ _ _ _)
   | (with_reducible exact ih1 _ _ _ _ _ _ _ _)
   | (with_reducible exact impl_IsPolygon.mono _ _)
   | (with_reducible exact impl_box.mono _ _)
   | (with_reducible exact impl_where.mono _ _ _ _)
   | (with_reducible exact LeO.refl _)
   | (with_reducible exact LeO.none _)
   | (with_reducible refine LeO.ite ?_ ?_)
   | (with_reducible refine LeO.bind ?_ (fun _ => ?_))
   | exact ih0 _ _ _ _ _ _ _
   | exact ih1 _ _ _ _ _ _ _ _
   | exact impl_IsPolygon.mono _ _
   | exact impl_box.mono _ _
   | exact impl_where.mono _ _ _ _
   | exact LeO.none _
   | refine LeO.ite ?_ ?_
   | refine LeO.bind ?_ (fun _ => ?_)
set_option maxHeartbeats 8000000 in
set_option maxRecDepth 100000 in
theorem impl_ListInside.calls (k : Nat) (A0 : Option Addr) (c0 : Nat) (l0 : List (S_impl_Peg)) (r1 : List (S_impl_Peg)) (r2 : Bool) (w : World) (hr0 : Kd.C kd_impl_Peg w A0 l0.length l0) (hc0 : l0.length ≤ c0) (h : impl_ListInside.f k l0 = some (r1, r2)) :
  Calls Try.prog 77 #[.slice A0 l0.length c0] w fun e w' => ∃ v0_ : Value, e = .returned (.tuple #[v0_, .bool r2]) ∧ Kd.R kd_impl_Peg 34 w' w.heap.size (fun _ => True) v0_ r1 ∧ Below w.heap.size w w' := by
 have hu34 := Try.underlying34
 have HR0 := aM hr0
 have HC0 := aM hc0
 clear hr0 hc0
 have HB := aM (Below.refl w.heap.size w)
 have H : ((impl_IsPolygon.f k l0).bind fun t1007 => (if t1007 = true then ((impl_box.f k l0).bind fun bt1011 => (impl_ListInside.l0 k l0 (([] : List (S_impl_Peg))) bt1011.1 bt1011.1 bt1011.2.1 bt1011.2.2.1 bt1011.2.2.2)) else (some (([] : List (S_impl_Peg)), false)))) = some (r1, r2) := h
 clear h
 replace H := oB.mp H
 obtain ⟨t1007, A20, H⟩ := H
 replace H : (if t1007 = true then ((impl_box.f k l0).bind fun bt1011 => (impl_ListInside.l0 k l0 (([] : List (S_impl_Peg))) bt1011.1 bt1011.1 bt1011.2.1 bt1011.2.2.1 bt1011.2.2.2)) else (some (([] : List (S_impl_Peg)), false))) = some (r1, r2) := H
 have A2 := aM A20
 clear A20
 by_cases c3 : t1007 = true
 ·subst c3
  have H1 : ((impl_box.f k l0).bind fun bt1011 => (impl_ListInside.l0 k l0 (([] : List (S_impl_Peg))) bt1011.1 bt1011.1 bt1011.2.1 bt1011.2.2.1 bt1011.2.2.2)) = some (r1, r2) := by rw [if_pos rfl] at H; exact H
  clear H
  have H := H1
  clear H1
  obtain ⟨y1008, hy1008⟩ : ∃ y_ : List (S_impl_Peg), y_ = (([] : List (S_impl_Peg))) := ⟨_, rfl⟩
  replace H : ((impl_box.f k l0).bind fun bt1011 => (impl_ListInside.l0 k l0 y1008 bt1011.1 bt1011.1 bt1011.2.1 bt1011.2.2.1 bt1011.2.2.2)) = some (r1, r2) := by first | (rw [hy1008]; with_reducible exact H) | (have H2_ := (Option.bind_some _ _).symm.trans H; rw [hy1008]; with_reducible exact H2_) | (have H2_ := (Option.bind_some _ _).symm.trans H; with_reducible exact H2_) | with_reducible exact H | (rw [hy1008]; exact H) | exact H
  have Ny1008 := aM hy1008
  clear hy1008
  replace H := oB.mp H
  obtain ⟨⟨t1011, t1012, t1013, t1014⟩, A40, H⟩ := H
  replace H : (impl_ListInside.l0 k l0 y1008 t1011 t1011 t1012 t1013 t1014) = some (r1, r2) := H
  have A4 := aM A40
  clear A40
  have H' := aM H
  clear H
  go_enter Try.func77, Try.ntmps77
  go_wp2_with (first | ((with_reducible refine gC (f := 85) rfl ?_); refine goesL_ (some 11) rfl rfl Try.func85 kR rfl #[.slice A0 l0.length c0] rfl sQ ?_; (with_reducible refine (impl_IsPolygon.calls k _ _ l0 true _ ?side1 ?side2 A2.out).mono ?_); (case side1 => repeat (first | exact HR0.out | (with_reducible refine cA ?_ _) | (with_reducible refine cN ?_ _) | (with_reducible refine cD ?_))); (case side2 => exact HC0.out); rintro e w5 ⟨rfl, hb⟩; refine ⟨_, rfl, ?_⟩; have n0_ := aM (pT bQ hb); clear HB; have HB := n0_; clear n0_; (try clear hb); (try clear hb2); (try clear hk); (try clear hi)) | ((with_reducible refine gate_dst (N := 13) rfl ?_); refine Kd.R_lit kd_impl_Peg _ 34 ?hg (N := 13) ?hd (xs := ([] : List (S_impl_Peg))) (inner := []) (ok := fun _ => True) (okp := fun _ => True) ?hr ?hp (fun _ hk => hk) trivial (Below.refl _ _) (Nat.le_refl _) (by simp) ?_; (case hd => rfl); (case hg => rfl); (case hr => first | (go_simp; done) | (go_simp; rfl)); (case hp => exact (Reps.none _ _)); intro v1009 w6 ho7 hb hg_ hnew_; clear hg_ hnew_; (first | rw [← Ny1008.out] at ho7 | (simp only [Int.reduceToNat] at ho7; rw [← Ny1008.out] at ho7)); have n0_ := aM (Kd.R_lower ho7 (pZ bQ)); have n1_ := aM (pT bQ hb); clear HB; have HO1010 := n0_; have HB := n1_; clear n0_ n1_; clear hb ho7) | ((with_reducible refine gC (f := 133) rfl ?_); refine goesL_ (some 16) rfl rfl Try.func133 kR rfl #[.slice A0 l0.length c0] rfl sQ ?_; (with_reducible refine (impl_box.calls k _ _ l0 t1011 t1012 t1013 t1014 _ ?side1 ?side2 A4.out).mono ?_); (case side1 => repeat (first | exact (Kd.C_below HR0.out HB.out) | (with_reducible refine cA ?_ _) | (with_reducible refine cN ?_ _) | (with_reducible refine cD ?_))); (case side2 => exact HC0.out); rintro e w8 ⟨rfl, hb⟩; refine ⟨_, rfl, ?_⟩; have n0_ := aM (Kd.R_below (rQ HO1010) hb); have n1_ := aM (pT bQ hb); clear HO1010; clear HB; have HO1010 := n0_; have HB := n1_; clear n0_ n1_; (try clear hb); (try clear hb2); (try clear hk); (try clear hi)) | ((with_reducible refine gate_dst (N := 5) rfl ?_); refine box_event ?hg (N := 5) ?hd (cs := #[.int .i64 0, .int .i64 0]) (t := 34) ?hr ?_; (case hd => rfl); (case hg => rfl); (case hr => first | (go_simp; done) | (go_simp; rfl)); intro gb1015 hg w9 hbox hb; have n0_ := aM (Kd.R_below (Kd.R_elderB (rQ HO1010) gb1015 (Nat.le_of_eq hg.symm)) hb); have n1_ := aM (pT bQ hb); have n2_ := aM (hbox); have n3_ := aM ((by rw [hg]; exact (pZ bQ) : w.heap.size ≤ gb1015)); have n4_ := aM ((by rw [hg]; exact (pZ bQ) : w.heap.size ≤ gb1015)); clear HO1010; clear HB; have HO1010 := n0_; have HB := n1_; have BK1015 := n2_; have GW1015 := n3_; have GE1015 := n4_; clear n0_ n1_ n2_ n3_ n4_; clear hb hbox hg) | ((with_reducible refine gate_dst (N := 6) rfl ?_); refine box_event ?hg (N := 6) ?hd (cs := #[.int .i64 0, .int .i64 0]) (t := 34) ?hr ?_; (case hd => rfl); (case hg => rfl); (case hr => first | (go_simp; done) | (go_simp; rfl)); intro gb1016 hg w10 hbox hb; have n0_ := aM (Kd.R_below (Kd.R_elderB (rQ HO1010) gb1016 (Nat.le_of_eq hg.symm)) hb); have n1_ := aM (blk_below (g := gb1015) (o := .cells #[.int .i64 0, .int .i64 0] 34 (0, 0)) (gQ BK1015) hb); have n2_ := aM (pT (by repeat (first | (with_reducible first | exact HB.out | apply pA | apply pN | apply pD | refine pS ?_ GE1015.out) | exact HB.out)) hb); have n3_ := aM (hbox); have n4_ := aM ((by rw [hg]; exact (pZ (by repeat (first | (with_reducible first | exact HB.out | apply pA | apply pN | apply pD | refine pS ?_ GE1015.out) | exact HB.out))) : w.heap.size ≤ gb1016)); have n5_ := aM ((by rw [hg]; exact (pZ (by repeat (first | (with_reducible first | exact HB.out | apply pA | apply pN | apply pD | refine pS ?_ GE1015.out) | exact HB.out))) : w.heap.size ≤ gb1016)); have n6_ := aM ((by rw [hg]; exact nN (blk_lt (g := gb1015) (o := .cells #[.int .i64 0, .int .i64 0] 34 (0, 0)) (gQ BK1015)) : gb1015 ≠ gb1016)); have n7_ := aM ((by rw [hg]; exact Nat.ne_of_gt (blk_lt (g := gb1015) (o := .cells #[.int .i64 0, .int .i64 0] 34 (0, 0)) (gQ BK1015)) : gb1016 ≠ gb1015)); clear HO1010; clear BK1015; clear HB; have HO1010 := n0_; have BK1015 := n1_; have HB := n2_; have BK1016 := n3_; have GW1016 := n4_; have GE1016 := n5_; have NB1015_1016 := n6_; have NB1016_1015 := n7_; clear n0_ n1_ n2_ n3_ n4_ n5_ n6_ n7_; clear hb hbox hg; have hnb11 := NB1015_1016.out; have hnc11 := NB1016_1015.out; have hcz12_0 : w10.cell? ⟨gb1015, 0, none⟩ = some (.int .i64 0) := (kC BK1015.out 0).trans rfl; have hcz12_1 : w10.cell? ⟨gb1015, 1, none⟩ = some (.int .i64 0) := (kC BK1015.out 1).trans rfl; have hfz12_0 := kF BK1015.out 0; have hfz12_1 := kF BK1015.out 1; have hcz13_0 : w10.cell? ⟨gb1016, 0, none⟩ = some (.int .i64 0) := (kC BK1016.out 0).trans rfl; have hcz13_1 : w10.cell? ⟨gb1016, 1, none⟩ = some (.int .i64 0) := (kC BK1016.out 1).trans rfl; have hfz13_0 := kF BK1016.out 0; have hfz13_1 := kF BK1016.out 1))
  go_loopg [4, 7] k (fun kq v4 v7 w' => ∃ (x4_1 : List (S_impl_Peg)) (x7_1 : Int), v7 = .int .i64 x7_1 ∧ Aside0 (impl_ListInside.l0 kq l0 x4_1 x7_1 t1011 t1012 t1013 t1014 = some (r1, r2)) ∧ Aside0 (kq ≤ k) ∧ Aside0 (Kd.R kd_impl_Peg 34 w' w.heap.size (fun k_ => k_ ≠ gb1015 ∧ k_ ≠ gb1016) v4 x4_1) ∧ Aside0 (w'.heap[gb1015]? = some (.cells #[.int .i64 t1011, .int .i64 t1012] 34 (0, 0))) ∧ Aside0 (w'.heap[gb1016]? = some (.cells #[.int .i64 t1013, .int .i64 t1014] 34 (0, 0))) ∧ Aside0 (Below w.heap.size w w'))
  case atStart => exact ⟨(y1008), (t1011), eQ, H', ⟨Nat.le_refl _⟩, ⟨by (with_reducible repeat (first | apply rA | apply rN | apply rD)); exact Kd.R_mono (Kd.R_far (p := ⟨gb1016, 1, none⟩) (Kd.R_far (p := ⟨gb1016, 0, none⟩) (Kd.R_far (p := ⟨gb1015, 1, none⟩) (Kd.R_far (p := ⟨gb1015, 0, none⟩) (Kd.R_mono (Kd.R_mono HO1010.out (fun k_ hk => (⟨hk, hk.1.2⟩ : _ ∧ k_ ≠ gb1015))) (fun k_ hk => (⟨hk, hk.1.2⟩ : _ ∧ k_ ≠ gb1016))) (fun _ hk => hk.1.2) (.int .i64 t1011)) (fun _ hk => hk.1.2) (.int .i64 t1012)) (fun _ hk => hk.2) (.int .i64 t1013)) (fun _ hk => hk.2) (.int .i64 t1014)) (fun _ hk => ⟨hk.1.1.1.2, hk.1.1.2⟩)⟩, ⟨by (with_reducible repeat (first | refine kN ?_ _ | refine kD ?_ | refine kA ?_ _)); refine blk_far ?_ NB1015_1016.out _; (with_reducible repeat (first | refine kN ?_ _ | refine kD ?_ | refine kA ?_ _)); refine blk_far ?_ NB1015_1016.out _; (with_reducible repeat (first | refine kN ?_ _ | refine kD ?_ | refine kA ?_ _)); refine blk_put (cs := #[.int .i64 t1011, .int .i64 0]) ?_ 1 _ rfl; (with_reducible repeat (first | refine kN ?_ _ | refine kD ?_ | refine kA ?_ _)); refine blk_put (cs := #[.int .i64 0, .int .i64 0]) ?_ 0 _ rfl; (with_reducible repeat (first | refine kN ?_ _ | refine kD ?_ | refine kA ?_ _)); exact BK1015.out⟩, ⟨by (with_reducible repeat (first | refine kN ?_ _ | refine kD ?_ | refine kA ?_ _)); refine blk_put (cs := #[.int .i64 t1013, .int .i64 0]) ?_ 1 _ rfl; (with_reducible repeat (first | refine kN ?_ _ | refine kD ?_ | refine kA ?_ _)); refine blk_put (cs := #[.int .i64 0, .int .i64 0]) ?_ 0 _ rfl; (with_reducible repeat (first | refine kN ?_ _ | refine kD ?_ | refine kA ?_ _)); refine blk_far ?_ NB1016_1015.out _; (with_reducible repeat (first | refine kN ?_ _ | refine kD ?_ | refine kA ?_ _)); refine blk_far ?_ NB1016_1015.out _; (with_reducible repeat (first | refine kN ?_ _ | refine kD ?_ | refine kA ?_ _)); exact BK1016.out⟩, ⟨by repeat (first | (with_reducible first | exact HB.out | apply pA | apply pN | apply pD | refine pS ?_ GE1015.out | refine pS ?_ GE1016.out) | exact HB.out)⟩⟩
  case round =>
   clear H'
   try clear c1
   try clear p2
   try clear c3
   try clear c7
   try clear c8
   try clear c11
   try clear c13
   try clear hcz12_0
   try clear hcz12_1
   try clear hcz13_0
   try clear hcz13_1
   try clear hfz12_0
   try clear hfz12_1
   try clear hfz13_0
   try clear hfz13_1
   obtain ⟨x4_1, x7_1, rfl, HA, HK1, HO_4, BK1015, BK1016, HB⟩ := hrel
   cases gk with
   | zero => exact absurd HA.out (by simp [impl_ListInside.l0])
   | succ k1 =>
    have H := HA.out
    clear HA
    simp only [impl_ListInside.l0] at H
    by_cases c14 : x7_1 ≤ t1013
    ·rw [if_pos c14] at H
     have c14b0 : decide (x7_1 ≤ t1013) = true := dE c14
     clear c14
     have H' := aM H
     clear H
     have hnb15 := NB1016_1015.out
     have hnc15 := NB1015_1016.out
     have hcz16_0 : wr.cell? ⟨gb1016, 0, none⟩ = some (.int .i64 t1013) := (kC BK1016.out 0).trans rfl
     have hcz16_1 : wr.cell? ⟨gb1016, 1, none⟩ = some (.int .i64 t1014) := (kC BK1016.out 1).trans rfl
     have hfz16_0 := kF BK1016.out 0
     have hfz16_1 := kF BK1016.out 1
     have hcz17_0 : wr.cell? ⟨gb1015, 0, none⟩ = some (.int .i64 t1011) := (kC BK1015.out 0).trans rfl
     have hcz17_1 : wr.cell? ⟨gb1015, 1, none⟩ = some (.int .i64 t1012) := (kC BK1015.out 1).trans rfl
     have hfz17_0 := kF BK1015.out 0
     have hfz17_1 := kF BK1015.out 1
     go_wp2
     go_loopg [4, 8] k1 (fun kq v4 v8 w' => ∃ (x4_2 : List (S_impl_Peg)) (x8_2 : Int), v8 = .int .i64 x8_2 ∧ Aside0 (impl_ListInside.l1 kq l0 x4_2 x7_1 x8_2 t1011 t1012 t1013 t1014 = some (r1, r2)) ∧ Aside0 (kq ≤ k1) ∧ Aside0 (Kd.R kd_impl_Peg 34 w' w.heap.size (fun k_ => k_ ≠ gb1015 ∧ k_ ≠ gb1016) v4 x4_2) ∧ Aside0 (w'.heap[gb1015]? = some (.cells #[.int .i64 t1011, .int .i64 t1012] 34 (0, 0))) ∧ Aside0 (w'.heap[gb1016]? = some (.cells #[.int .i64 t1013, .int .i64 t1014] 34 (0, 0))) ∧ Aside0 (Below w.heap.size w w'))
     case atStart => exact ⟨(x4_1), (t1012), eQ, H', ⟨Nat.le_refl _⟩, ⟨by (with_reducible repeat (first | apply rA | apply rN | apply rD)); exact HO_4.out⟩, ⟨by (with_reducible repeat (first | refine kN ?_ _ | refine kD ?_ | refine kA ?_ _)); exact BK1015.out⟩, ⟨by (with_reducible repeat (first | refine kN ?_ _ | refine kD ?_ | refine kA ?_ _)); exact BK1016.out⟩, ⟨by repeat (first | (with_reducible first | exact HB.out | apply pA | apply pN | apply pD | refine pS ?_ GE1015.out | refine pS ?_ GE1016.out) | exact HB.out)⟩⟩
     case round =>
      clear H'
      try clear c1
      try clear p2
      try clear c3
      try clear c7
      try clear c8
      try clear c11
      try clear c13
      try clear c14
      try clear c14b0
      try clear c15
      try clear hcz12_0
      try clear hcz12_1
      try clear hcz13_0
      try clear hcz13_1
      try clear hcz16_0
      try clear hcz16_1
      try clear hcz17_0
      try clear hcz17_1
      try clear hfz12_0
      try clear hfz12_1
      try clear hfz13_0
      try clear hfz13_1
      try clear hfz16_0
      try clear hfz16_1
      try clear hfz17_0
      try clear hfz17_1
      try clear p2
      obtain ⟨x4_2, x8_2, rfl, HA, HK2, HO_4, BK1015, BK1016, HB⟩ := hrel
      cases gk with
      | zero => exact absurd HA.out (by simp [impl_ListInside.l1])
      | succ k2 =>
       have H := HA.out
       clear HA
       simp only [impl_ListInside.l1] at H
       by_cases c18 : x8_2 ≤ t1014
       ·rw [if_pos c18] at H
        have c18b0 : decide (x8_2 ≤ t1014) = true := dE c18
        clear c18
        replace H := oB.mp H
        obtain ⟨t1018, A190, H⟩ := H
        replace H : (if t1018 > 0 then (if x4_2.length < 8796093022208 then (impl_ListInside.l1 k2 l0 (x4_2 ++ [(⟨x7_1, x8_2⟩ : S_impl_Peg)]) x7_1 (wrap64 (x8_2 + 1)) t1011 t1012 t1013 t1014) else (none)) else (impl_ListInside.l1 k2 l0 x4_2 x7_1 (wrap64 (x8_2 + 1)) t1011 t1012 t1013 t1014)) = some (r1, r2) := H
        have A19 := aM A190
        clear A190
        by_cases c20 : t1018 > 0
        ·rw [if_pos c20] at H
         have c20b0 : decide (0 < t1018) = true := dE c20
         clear c20
         by_cases c21 : x4_2.length < 8796093022208
         ·rw [if_pos c21] at H
          have LMc21 := aM c21
          clear c21
          obtain ⟨y1019, hy1019⟩ : ∃ y_ : List (S_impl_Peg), y_ = (x4_2 ++ [(⟨x7_1, x8_2⟩ : S_impl_Peg)]) := ⟨_, rfl⟩
          replace H : (impl_ListInside.l1 k2 l0 y1019 x7_1 (wrap64 (x8_2 + 1)) t1011 t1012 t1013 t1014) = some (r1, r2) := by first | (rw [hy1019]; with_reducible exact H) | (have H2_ := (Option.bind_some _ _).symm.trans H; rw [hy1019]; with_reducible exact H2_) | (have H2_ := (Option.bind_some _ _).symm.trans H; with_reducible exact H2_) | with_reducible exact H | (rw [hy1019]; exact H) | exact H
          have Ny1019 := aM hy1019
          clear hy1019
          have H' := aM H
          clear H
          have hnb22 := NB1016_1015.out
          have hnc22 := NB1015_1016.out
          have hcz23_0 : wr.cell? ⟨gb1016, 0, none⟩ = some (.int .i64 t1013) := (kC BK1016.out 0).trans rfl
          have hcz23_1 : wr.cell? ⟨gb1016, 1, none⟩ = some (.int .i64 t1014) := (kC BK1016.out 1).trans rfl
          have hfz23_0 := kF BK1016.out 0
          have hfz23_1 := kF BK1016.out 1
          go_wp2_with (first | ((with_reducible refine gate_dst (N := 9) rfl ?_); refine box_event ?hg (N := 9) ?hd (cs := #[.int .i64 0, .int .i64 0]) (t := 34) ?hr ?_; (case hd => rfl); (case hg => rfl); (case hr => first | (go_simp; done) | (go_simp; rfl)); intro gb1017 hg w24 hbox hb; have n0_ := aM (Kd.R_below (Kd.R_elderB (rQ HO_4) gb1017 (Nat.le_of_eq hg.symm)) hb); have n1_ := aM (blk_below (g := gb1015) (o := .cells #[.int .i64 t1011, .int .i64 t1012] 34 (0, 0)) (gQ BK1015) hb); have n2_ := aM (blk_below (g := gb1016) (o := .cells #[.int .i64 t1013, .int .i64 t1014] 34 (0, 0)) (gQ BK1016) hb); have n3_ := aM (pT (by repeat (first | (with_reducible first | exact HB.out | apply pA | apply pN | apply pD | refine pS ?_ GE1015.out | refine pS ?_ GE1016.out) | exact HB.out)) hb); have n4_ := aM (hbox); have n5_ := aM ((by rw [hg]; exact (pZ (by repeat (first | (with_reducible first | exact HB.out | apply pA | apply pN | apply pD | refine pS ?_ GE1015.out | refine pS ?_ GE1016.out) | exact HB.out))) : w.heap.size ≤ gb1017)); have n6_ := aM ((by rw [hg]; exact (pZ (by repeat (first | (with_reducible first | exact HB.out | apply pA | apply pN | apply pD | refine pS ?_ GE1015.out | refine pS ?_ GE1016.out) | exact HB.out))) : w.heap.size ≤ gb1017)); have n7_ := aM ((by rw [hg]; exact nN (blk_lt (g := gb1015) (o := .cells #[.int .i64 t1011, .int .i64 t1012] 34 (0, 0)) (gQ BK1015)) : gb1015 ≠ gb1017)); have n8_ := aM ((by rw [hg]; exact Nat.ne_of_gt (blk_lt (g := gb1015) (o := .cells #[.int .i64 t1011, .int .i64 t1012] 34 (0, 0)) (gQ BK1015)) : gb1017 ≠ gb1015)); have n9_ := aM ((by rw [hg]; exact nN (blk_lt (g := gb1016) (o := .cells #[.int .i64 t1013, .int .i64 t1014] 34 (0, 0)) (gQ BK1016)) : gb1016 ≠ gb1017)); have n10_ := aM ((by rw [hg]; exact Nat.ne_of_gt (blk_lt (g := gb1016) (o := .cells #[.int .i64 t1013, .int .i64 t1014] 34 (0, 0)) (gQ BK1016)) : gb1017 ≠ gb1016)); clear HO_4; clear BK1015; clear BK1016; clear HB; have HO_4 := n0_; have BK1015 := n1_; have BK1016 := n2_; have HB := n3_; have BK1017 := n4_; have GW1017 := n5_; have GE1017 := n6_; have NB1015_1017 := n7_; have NB1017_1015 := n8_; have NB1016_1017 := n9_; have NB1017_1016 := n10_; clear n0_ n1_ n2_ n3_ n4_ n5_ n6_ n7_ n8_ n9_ n10_; clear hb hbox hg; have hnb25 := NB1017_1015.out; have hnc25 := NB1015_1017.out; have hnb26 := NB1017_1016.out; have hnc26 := NB1016_1017.out; have hcz27_0 : w24.cell? ⟨gb1017, 0, none⟩ = some (.int .i64 0) := (kC BK1017.out 0).trans rfl; have hcz27_1 : w24.cell? ⟨gb1017, 1, none⟩ = some (.int .i64 0) := (kC BK1017.out 1).trans rfl; have hfz27_0 := kF BK1017.out 0; have hfz27_1 := kF BK1017.out 1) | ((with_reducible refine gC (f := 90) rfl ?_); refine goesL_ (some 40) rfl rfl Try.func90 kR rfl #[.slice A0 l0.length c0, .agg #[.int .i64 x7_1, .int .i64 x8_2]] rfl sQ ?_; (with_reducible refine (impl_where.calls k2 _ _ l0 x7_1 x8_2 t1018 _ ?side1 ?side2 A19.out).mono ?_); (case side1 => exact Kd.C_below HR0.out (by repeat (first | (with_reducible first | exact HB.out | apply pA | apply pN | apply pD | refine pS ?_ GE1015.out | refine pS ?_ GE1016.out | refine pS ?_ GE1017.out) | exact HB.out))); (case side2 => exact HC0.out); rintro e w28 ⟨rfl, hb⟩; refine ⟨_, rfl, ?_⟩; have n0_ := aM (Kd.R_below (by (with_reducible repeat (first | apply rA | apply rN | apply rD)); exact (Kd.R_mono (Kd.R_far (p := ⟨gb1017, 1, none⟩) (Kd.R_far (p := ⟨gb1017, 0, none⟩) (Kd.R_mono HO_4.out (fun k_ hk => (⟨hk, hk.2⟩ : _ ∧ k_ ≠ gb1017))) (fun _ hk => hk.2) (.int .i64 x7_1)) (fun _ hk => hk.2) (.int .i64 x8_2)) (fun _ h_ => h_.1))) hb); have n1_ := aM (blk_below (g := gb1015) (o := .cells #[.int .i64 t1011, .int .i64 t1012] 34 (0, 0)) (by (with_reducible repeat (first | refine kN ?_ _ | refine kD ?_ | refine kA ?_ _)); refine blk_far ?_ NB1015_1017.out _; (with_reducible repeat (first | refine kN ?_ _ | refine kD ?_ | refine kA ?_ _)); refine blk_far ?_ NB1015_1017.out _; (with_reducible repeat (first | refine kN ?_ _ | refine kD ?_ | refine kA ?_ _)); exact BK1015.out) hb); have n2_ := aM (blk_below (g := gb1016) (o := .cells #[.int .i64 t1013, .int .i64 t1014] 34 (0, 0)) (by (with_reducible repeat (first | refine kN ?_ _ | refine kD ?_ | refine kA ?_ _)); refine blk_far ?_ NB1016_1017.out _; (with_reducible repeat (first | refine kN ?_ _ | refine kD ?_ | refine kA ?_ _)); refine blk_far ?_ NB1016_1017.out _; (with_reducible repeat (first | refine kN ?_ _ | refine kD ?_ | refine kA ?_ _)); exact BK1016.out) hb); have n3_ := aM (blk_below (g := gb1017) (o := .cells #[.int .i64 x7_1, .int .i64 x8_2] 34 (0, 0)) (by (with_reducible repeat (first | refine kN ?_ _ | refine kD ?_ | refine kA ?_ _)); refine blk_put (cs := #[.int .i64 x7_1, .int .i64 0]) ?_ 1 _ rfl; (with_reducible repeat (first | refine kN ?_ _ | refine kD ?_ | refine kA ?_ _)); refine blk_put (cs := #[.int .i64 0, .int .i64 0]) ?_ 0 _ rfl; (with_reducible repeat (first | refine kN ?_ _ | refine kD ?_ | refine kA ?_ _)); exact BK1017.out) hb); have n4_ := aM (pT (by repeat (first | (with_reducible first | exact HB.out | apply pA | apply pN | apply pD | refine pS ?_ GE1015.out | refine pS ?_ GE1016.out | refine pS ?_ GE1017.out) | exact HB.out)) hb); clear HO_4; clear BK1015; clear BK1016; clear BK1017; clear HB; have HO_4 := n0_; have BK1015 := n1_; have BK1016 := n2_; have BK1017 := n3_; have HB := n4_; clear n0_ n1_ n2_ n3_ n4_; (try clear hb); (try clear hb2); (try clear hk); (try clear hi); have hcz29_0 : w28.cell? ⟨gb1017, 0, none⟩ = some (.int .i64 x7_1) := (kC BK1017.out 0).trans rfl; have hcz29_1 : w28.cell? ⟨gb1017, 1, none⟩ = some (.int .i64 x8_2) := (kC BK1017.out 1).trans rfl; have hfz29_0 := kF BK1017.out 0; have hfz29_1 := kF BK1017.out 1) | ((with_reducible refine gate_builtin (b := .append) (xs := #[.tmp 42, .tmp 44]) rfl ?_); at_builtin; refine Kd.R_append kd_impl_Peg (w0 := w) w.heap.size rfl (.tmp 42) (.tmp 44) 26 34 (.agg #[(.int .i64 0), (.int .i64 0)]) 16 rfl Try.underlying26 info34 rfl (by decide) (by omega) u4 x4_2 (⟨x7_1, x8_2⟩ : S_impl_Peg) [.int .i64 x7_1, .int .i64 x8_2] (fun k_ => k_ ≠ gb1015 ∧ k_ ≠ gb1016 ∧ k_ ≠ gb1017) (fun _ => False) rfl rfl ?aP (fun _ hk => hk.elim) ?aF ?aO ?aB ?aS ?aL ?_; (case aP => exact kd_impl_Peg_mkM _ _ _ (⟨x7_1, x8_2⟩ : S_impl_Peg)); (case aB => exact (by repeat (first | (with_reducible first | exact HB.out | apply pA | apply pN | apply pD | refine pS ?_ GE1015.out | refine pS ?_ GE1016.out | refine pS ?_ GE1017.out) | exact HB.out))); (case aF => exact (fun k_ hk => ⟨Kd.freshB (g := gb1015) (o := .cells #[.int .i64 t1011, .int .i64 t1012] 34 (0, 0)) (gQ BK1015) k_ hk, Kd.freshB (g := gb1016) (o := .cells #[.int .i64 t1013, .int .i64 t1014] 34 (0, 0)) (gQ BK1016) k_ hk, Kd.freshB (g := gb1017) (o := .cells #[.int .i64 x7_1, .int .i64 x8_2] 34 (0, 0)) (gQ BK1017) k_ hk⟩)); (case aO => exact (by (with_reducible repeat (first | apply rA | apply rN | apply rD)); exact Kd.R_mono HO_4.out (fun _ hk => ⟨hk.1.1, ⟨hk.1.2, hk.2⟩⟩))); (case aS => exact (pZ (by repeat (first | (with_reducible first | exact HB.out | apply pA | apply pN | apply pD | refine pS ?_ GE1015.out | refine pS ?_ GE1016.out | refine pS ?_ GE1017.out) | exact HB.out)))); (case aL => have := LMc21.out; omega); intro v1020 w30 ho hb hg hat; rw [← Ny1019.out] at ho; have n0_ := aM (blk_grown (g := gb1015) (o := .cells #[.int .i64 t1011, .int .i64 t1012] 34 (0, 0)) (gQ BK1015) hg (Kd.R_away HO_4.out (fun _ hk => hk.1.1))); have n1_ := aM (blk_grown (g := gb1016) (o := .cells #[.int .i64 t1013, .int .i64 t1014] 34 (0, 0)) (gQ BK1016) hg (Kd.R_away HO_4.out (fun _ hk => hk.1.2))); have n2_ := aM (blk_grown (g := gb1017) (o := .cells #[.int .i64 x7_1, .int .i64 x8_2] 34 (0, 0)) (gQ BK1017) hg (Kd.R_away HO_4.out (fun _ hk => hk.2))); have n3_ := aM (hb); have n4_ := aM (ho); clear BK1015; clear BK1016; clear BK1017; clear HB; clear HO_4; have BK1015 := n0_; have BK1016 := n1_; have BK1017 := n2_; have HB := n3_; have HO1021 := n4_; clear n0_ n1_ n2_ n3_ n4_; clear ho hb hg hat))
          go_roundg k2
          case measure => have := HK1.out; have := HK2.out; omega
          case rel => exact ⟨(y1019), (wrap64 (x8_2 + 1)), eQ, H', ⟨by have := HK1.out; have := HK2.out; omega⟩, ⟨by (with_reducible repeat (first | apply rA | apply rN | apply rD)); exact Kd.R_mono HO1021.out (fun _ hk => ⟨hk.1, hk.2.1⟩)⟩, ⟨by (with_reducible repeat (first | refine kN ?_ _ | refine kD ?_ | refine kA ?_ _)); exact BK1015.out⟩, ⟨by (with_reducible repeat (first | refine kN ?_ _ | refine kD ?_ | refine kA ?_ _)); exact BK1016.out⟩, ⟨by repeat (first | (with_reducible first | exact HB.out | apply pA | apply pN | apply pD | refine pS ?_ GE1015.out | refine pS ?_ GE1016.out | refine pS ?_ GE1017.out) | exact HB.out)⟩⟩
         ·rw [if_neg c21] at H
          exact absurd H (by simp)
        ·rw [if_neg c20] at H
         have c20b0 : decide (0 < t1018) = false := decide_eq_false c20
         clear c20
         have H' := aM H
         clear H
         have hnb31 := NB1016_1015.out
         have hnc31 := NB1015_1016.out
         have hcz32_0 : wr.cell? ⟨gb1016, 0, none⟩ = some (.int .i64 t1013) := (kC BK1016.out 0).trans rfl
         have hcz32_1 : wr.cell? ⟨gb1016, 1, none⟩ = some (.int .i64 t1014) := (kC BK1016.out 1).trans rfl
         have hfz32_0 := kF BK1016.out 0
         have hfz32_1 := kF BK1016.out 1
         go_wp2_with (first | ((with_reducible refine gate_dst (N := 9) rfl ?_); refine box_event ?hg (N := 9) ?hd (cs := #[.int .i64 0, .int .i64 0]) (t := 34) ?hr ?_; (case hd => rfl); (case hg => rfl); (case hr => first | (go_simp; done) | (go_simp; rfl)); intro gb1017 hg w33 hbox hb; have n0_ := aM (Kd.R_below (Kd.R_elderB (rQ HO_4) gb1017 (Nat.le_of_eq hg.symm)) hb); have n1_ := aM (blk_below (g := gb1015) (o := .cells #[.int .i64 t1011, .int .i64 t1012] 34 (0, 0)) (gQ BK1015) hb); have n2_ := aM (blk_below (g := gb1016) (o := .cells #[.int .i64 t1013, .int .i64 t1014] 34 (0, 0)) (gQ BK1016) hb); have n3_ := aM (pT (by repeat (first | (with_reducible first | exact HB.out | apply pA | apply pN | apply pD | refine pS ?_ GE1015.out | refine pS ?_ GE1016.out) | exact HB.out)) hb); have n4_ := aM (hbox); have n5_ := aM ((by rw [hg]; exact (pZ (by repeat (first | (with_reducible first | exact HB.out | apply pA | apply pN | apply pD | refine pS ?_ GE1015.out | refine pS ?_ GE1016.out) | exact HB.out))) : w.heap.size ≤ gb1017)); have n6_ := aM ((by rw [hg]; exact (pZ (by repeat (first | (with_reducible first | exact HB.out | apply pA | apply pN | apply pD | refine pS ?_ GE1015.out | refine pS ?_ GE1016.out) | exact HB.out))) : w.heap.size ≤ gb1017)); have n7_ := aM ((by rw [hg]; exact nN (blk_lt (g := gb1015) (o := .cells #[.int .i64 t1011, .int .i64 t1012] 34 (0, 0)) (gQ BK1015)) : gb1015 ≠ gb1017)); have n8_ := aM ((by rw [hg]; exact Nat.ne_of_gt (blk_lt (g := gb1015) (o := .cells #[.int .i64 t1011, .int .i64 t1012] 34 (0, 0)) (gQ BK1015)) : gb1017 ≠ gb1015)); have n9_ := aM ((by rw [hg]; exact nN (blk_lt (g := gb1016) (o := .cells #[.int .i64 t1013, .int .i64 t1014] 34 (0, 0)) (gQ BK1016)) : gb1016 ≠ gb1017)); have n10_ := aM ((by rw [hg]; exact Nat.ne_of_gt (blk_lt (g := gb1016) (o := .cells #[.int .i64 t1013, .int .i64 t1014] 34 (0, 0)) (gQ BK1016)) : gb1017 ≠ gb1016)); clear HO_4; clear BK1015; clear BK1016; clear HB; have HO_4 := n0_; have BK1015 := n1_; have BK1016 := n2_; have HB := n3_; have BK1017 := n4_; have GW1017 := n5_; have GE1017 := n6_; have NB1015_1017 := n7_; have NB1017_1015 := n8_; have NB1016_1017 := n9_; have NB1017_1016 := n10_; clear n0_ n1_ n2_ n3_ n4_ n5_ n6_ n7_ n8_ n9_ n10_; clear hb hbox hg; have hnb34 := NB1017_1015.out; have hnc34 := NB1015_1017.out; have hnb35 := NB1017_1016.out; have hnc35 := NB1016_1017.out; have hcz36_0 : w33.cell? ⟨gb1017, 0, none⟩ = some (.int .i64 0) := (kC BK1017.out 0).trans rfl; have hcz36_1 : w33.cell? ⟨gb1017, 1, none⟩ = some (.int .i64 0) := (kC BK1017.out 1).trans rfl; have hfz36_0 := kF BK1017.out 0; have hfz36_1 := kF BK1017.out 1) | ((with_reducible refine gC (f := 90) rfl ?_); refine goesL_ (some 40) rfl rfl Try.func90 kR rfl #[.slice A0 l0.length c0, .agg #[.int .i64 x7_1, .int .i64 x8_2]] rfl sQ ?_; (with_reducible refine (impl_where.calls k2 _ _ l0 x7_1 x8_2 t1018 _ ?side1 ?side2 A19.out).mono ?_); (case side1 => exact Kd.C_below HR0.out (by repeat (first | (with_reducible first | exact HB.out | apply pA | apply pN | apply pD | refine pS ?_ GE1015.out | refine pS ?_ GE1016.out | refine pS ?_ GE1017.out) | exact HB.out))); (case side2 => exact HC0.out); rintro e w37 ⟨rfl, hb⟩; refine ⟨_, rfl, ?_⟩; have n0_ := aM (Kd.R_below (by (with_reducible repeat (first | apply rA | apply rN | apply rD)); exact (Kd.R_mono (Kd.R_far (p := ⟨gb1017, 1, none⟩) (Kd.R_far (p := ⟨gb1017, 0, none⟩) (Kd.R_mono HO_4.out (fun k_ hk => (⟨hk, hk.2⟩ : _ ∧ k_ ≠ gb1017))) (fun _ hk => hk.2) (.int .i64 x7_1)) (fun _ hk => hk.2) (.int .i64 x8_2)) (fun _ h_ => h_.1))) hb); have n1_ := aM (blk_below (g := gb1015) (o := .cells #[.int .i64 t1011, .int .i64 t1012] 34 (0, 0)) (by (with_reducible repeat (first | refine kN ?_ _ | refine kD ?_ | refine kA ?_ _)); refine blk_far ?_ NB1015_1017.out _; (with_reducible repeat (first | refine kN ?_ _ | refine kD ?_ | refine kA ?_ _)); refine blk_far ?_ NB1015_1017.out _; (with_reducible repeat (first | refine kN ?_ _ | refine kD ?_ | refine kA ?_ _)); exact BK1015.out) hb); have n2_ := aM (blk_below (g := gb1016) (o := .cells #[.int .i64 t1013, .int .i64 t1014] 34 (0, 0)) (by (with_reducible repeat (first | refine kN ?_ _ | refine kD ?_ | refine kA ?_ _)); refine blk_far ?_ NB1016_1017.out _; (with_reducible repeat (first | refine kN ?_ _ | refine kD ?_ | refine kA ?_ _)); refine blk_far ?_ NB1016_1017.out _; (with_reducible repeat (first | refine kN ?_ _ | refine kD ?_ | refine kA ?_ _)); exact BK1016.out) hb); have n3_ := aM (blk_below (g := gb1017) (o := .cells #[.int .i64 x7_1, .int .i64 x8_2] 34 (0, 0)) (by (with_reducible repeat (first | refine kN ?_ _ | refine kD ?_ | refine kA ?_ _)); refine blk_put (cs := #[.int .i64 x7_1, .int .i64 0]) ?_ 1 _ rfl; (with_reducible repeat (first | refine kN ?_ _ | refine kD ?_ | refine kA ?_ _)); refine blk_put (cs := #[.int .i64 0, .int .i64 0]) ?_ 0 _ rfl; (with_reducible repeat (first | refine kN ?_ _ | refine kD ?_ | refine kA ?_ _)); exact BK1017.out) hb); have n4_ := aM (pT (by repeat (first | (with_reducible first | exact HB.out | apply pA | apply pN | apply pD | refine pS ?_ GE1015.out | refine pS ?_ GE1016.out | refine pS ?_ GE1017.out) | exact HB.out)) hb); clear HO_4; clear BK1015; clear BK1016; clear BK1017; clear HB; have HO_4 := n0_; have BK1015 := n1_; have BK1016 := n2_; have BK1017 := n3_; have HB := n4_; clear n0_ n1_ n2_ n3_ n4_; (try clear hb); (try clear hb2); (try clear hk); (try clear hi)))
         go_roundg k2
         case measure => have := HK1.out; have := HK2.out; omega
         case rel => exact ⟨(x4_2), (wrap64 (x8_2 + 1)), eQ, H', ⟨by have := HK1.out; have := HK2.out; omega⟩, ⟨by (with_reducible repeat (first | apply rA | apply rN | apply rD)); exact Kd.R_mono HO_4.out (fun _ hk => ⟨hk.1.1, hk.1.2⟩)⟩, ⟨by (with_reducible repeat (first | refine kN ?_ _ | refine kD ?_ | refine kA ?_ _)); exact BK1015.out⟩, ⟨by (with_reducible repeat (first | refine kN ?_ _ | refine kD ?_ | refine kA ?_ _)); exact BK1016.out⟩, ⟨by repeat (first | (with_reducible first | exact HB.out | apply pA | apply pN | apply pD | refine pS ?_ GE1015.out | refine pS ?_ GE1016.out | refine pS ?_ GE1017.out) | exact HB.out)⟩⟩
       ·rw [if_neg c18] at H
        have c18b0 : decide (x8_2 ≤ t1014) = false := decide_eq_false c18
        clear c18
        have H' := aM H
        clear H
        have hnb38 := NB1016_1015.out
        have hnc38 := NB1015_1016.out
        have hcz39_0 : wr.cell? ⟨gb1016, 0, none⟩ = some (.int .i64 t1013) := (kC BK1016.out 0).trans rfl
        have hcz39_1 : wr.cell? ⟨gb1016, 1, none⟩ = some (.int .i64 t1014) := (kC BK1016.out 1).trans rfl
        have hfz39_0 := kF BK1016.out 0
        have hfz39_1 := kF BK1016.out 1
        go_wp2
        go_roundg k2
        case measure => have := HK1.out; have := HK2.out; omega
        case rel => exact ⟨(x4_2), (wrap64 (x7_1 + 1)), eQ, H', ⟨by have := HK1.out; have := HK2.out; omega⟩, ⟨by (with_reducible repeat (first | apply rA | apply rN | apply rD)); exact HO_4.out⟩, ⟨by (with_reducible repeat (first | refine kN ?_ _ | refine kD ?_ | refine kA ?_ _)); exact BK1015.out⟩, ⟨by (with_reducible repeat (first | refine kN ?_ _ | refine kD ?_ | refine kA ?_ _)); exact BK1016.out⟩, ⟨by repeat (first | (with_reducible first | exact HB.out | apply pA | apply pN | apply pD | refine pS ?_ GE1015.out | refine pS ?_ GE1016.out) | exact HB.out)⟩⟩
    ·rw [if_neg c14] at H
     have c14b0 : decide (x7_1 ≤ t1013) = false := decide_eq_false c14
     clear c14
     simp only [Option.some.injEq, Prod.mk.injEq] at H
     obtain ⟨rfl, rfl⟩ := H
     have hnb40 := NB1016_1015.out
     have hnc40 := NB1015_1016.out
     have hcz41_0 : wr.cell? ⟨gb1016, 0, none⟩ = some (.int .i64 t1013) := (kC BK1016.out 0).trans rfl
     have hcz41_1 : wr.cell? ⟨gb1016, 1, none⟩ = some (.int .i64 t1014) := (kC BK1016.out 1).trans rfl
     have hfz41_0 := kF BK1016.out 0
     have hfz41_1 := kF BK1016.out 1
     go_wp2
     go_ret2
     exact ⟨_, by first | rfl | (simp [errW_none, errW_some] <;> rfl) | (simp [*, errW_none, errW_some] <;> rfl), by (with_reducible repeat (first | apply rA | apply rN | apply rD)); exact Kd.R_mono HO_4.out (fun _ hk => trivial), by repeat (first | (with_reducible first | exact HB.out | apply pA | apply pN | apply pD | refine pS ?_ GE1015.out | refine pS ?_ GE1016.out) | exact HB.out)⟩
 ·replace c3 := Bool.eq_false_iff.mpr c3
  subst c3
  have H1 : (some (([] : List (S_impl_Peg)), false)) = some (r1, r2) := by rw [if_neg (show ¬ (false = true) by decide)] at H; exact H
  clear H
  have H := H1
  clear H1
  simp only [Option.some.injEq, Prod.mk.injEq] at H
  obtain ⟨rfl, rfl⟩ := H
  go_enter Try.func77, Try.ntmps77
  go_wp2_with (first | ((with_reducible refine gC (f := 85) rfl ?_); refine goesL_ (some 11) rfl rfl Try.func85 kR rfl #[.slice A0 l0.length c0] rfl sQ ?_; (with_reducible refine (impl_IsPolygon.calls k _ _ l0 false _ ?side1 ?side2 A2.out).mono ?_); (case side1 => repeat (first | exact HR0.out | (with_reducible refine cA ?_ _) | (with_reducible refine cN ?_ _) | (with_reducible refine cD ?_))); (case side2 => exact HC0.out); rintro e w42 ⟨rfl, hb⟩; refine ⟨_, rfl, ?_⟩; have n0_ := aM (pT bQ hb); clear HB; have HB := n0_; clear n0_; (try clear hb); (try clear hb2); (try clear hk); (try clear hi)))
  go_ret2
  exact ⟨_, by first | rfl | (simp [errW_none, errW_some] <;> rfl) | (simp [*, errW_none, errW_some] <;> rfl), by first | exact Kd.R_nil _ _ _ _ _ | exact Kd.N_nil _ _ _ _ _ | exact Kd.V_nil _ _ _ _ _ | exact Kd.Q_nil _ _ _ _ _ | exact Kd.S_nil _ _ _ _ _, bQ⟩

end Go.Proofs.Ytiacfkilmknldaa.X
