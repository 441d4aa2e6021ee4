-- thin
-- short
-- compact
import Derived.Test.YtklhakfmegbobaaXA
import Derived.Test.YtklhakfmegbobaaX0
import Derived.Test.YtklhakfmegbobaaX7
import Derived.Test.YtklhakfmegbobaaX10
import Derived.Test.YtklhakfmegbobaaX14
namespace Go.Proofs.Ytklhakfmegbobaa.X
open Go.RowKit Go.Proofs.Ytklhakfmegbobaa.XW Go.Proofs.YtklhakfmegbobaaW.PrintWords Go.Proofs.YtklhakfmegbobaaW.PrintLast Go.Proofs.YtklhakfmegbobaaW.PrintMore
attribute [local go_sem] max2_int min2_int max_two min_two max_three min_three max_four min_four   -- for this text's walks alone
set_option linter.unusedVariables false
set_option linter.unusedSimpArgs false

def impl_changed_at_impl_Move_bring.l0 : Nat → List (S_impl_Peg) → List (S_impl_Peg) → Int → Int → Int → Int → Int → Int → Int → Int → Option ((List (S_impl_Peg)) × Bool)
 | 0, _, _, _, _, _, _, _, _, _, _ => none
 | k + 1, x6, x13, x14, x15, x600, x601, x602, x603, x604, x605 => if x15 < x14 then (if 0 ≤ x15 then (if x15 < (x13.length : Int) then ((impl_Move_bring.f x600 x601 x602 x603 x604 x605 ((rd_impl_Peg x13 x15).f0) ((rd_impl_Peg x13 x15).f1)).bind fun bt362 => (if x6.length < 8796093022208 then (impl_changed_at_impl_Move_bring.l0 k (x6 ++ [(⟨bt362.1, bt362.2⟩ : S_impl_Peg)]) x13 x14 (wrap64 (x15 + 1)) x600 x601 x602 x603 x604 x605) else (none))) else (none)) else (none)) else ((impl_arePegs.f k x6).bind fun t367 => (if t367 = true then (some (x6, true)) else (some (([] : List (S_impl_Peg)), false))))
def impl_changed_at_impl_Move_bring.f (k : Nat) (l0 : List (S_impl_Peg)) (a1_0 : Int) (a1_1 : Int) (a1_2 : Int) (a1_3 : Int) (a1_4 : Int) (a1_5 : Int) : Option ((List (S_impl_Peg)) × Bool) := (impl_IsPolygon.f k l0).bind fun t356 => (if t356 = true then (impl_changed_at_impl_Move_bring.l0 k (([] : List (S_impl_Peg))) l0 (l0.length : Int) 0 a1_0 a1_1 a1_2 a1_3 a1_4 a1_5) else (some (([] : List (S_impl_Peg)), false)))
theorem impl_changed_at_impl_Move_bring.mono_l : ∀ k, (∀ y0 y1 y2 y3 y4 y5 y6 y7 y8 y9, LeO (impl_changed_at_impl_Move_bring.l0 k y0 y1 y2 y3 y4 y5 y6 y7 y8 y9) (impl_changed_at_impl_Move_bring.l0 (k + 1) y0 y1 y2 y3 y4 y5 y6 y7 y8 y9))
 | 0 => fun _ _ _ _ _ _ _ _ _ _ r h => by simp [impl_changed_at_impl_Move_bring.l0] at h
 | k + 1 => by
  have ih0 := impl_changed_at_impl_Move_bring.mono_l k
  ·intro y0 y1 y2 y3 y4 y5 y6 y7 y8 y9
   unfold impl_changed_at_impl_Move_bring.l0
   repeat' first
   | (with_reducible exact ih0 _ _ _ _ _ _ _ _ _ _)
   | (with_reducible exact impl_IsPolygon.mono _ _)
   | (with_reducible exact impl_arePegs.mono _ _)
   | (with_reducible exact LeO.refl _)
   | (with_reducible exact LeO.none _)
   | (with_reducible refine LeO.ite ?_ ?_)
   | (with_reducible refine LeO.bind ?_ (fun _ => ?_))
   | exact ih0 _ _ _ _ _ _ _ _ _ _
   | exact impl_IsPolygon.mono _ _
   | exact impl_arePegs.mono _ _
   | exact LeO.none _
   | refine LeO.ite ?_ ?_
   | refine LeO.bind ?_ (fun _ => ?_)
theorem impl_changed_at_impl_Move_bring.mono : ∀ a0 a1 a2 a3 a4 a5 a6 k, LeO (impl_changed_at_impl_Move_bring.f k a0 a1 a2 a3 a4 a5 a6) (impl_changed_at_impl_Move_bring.f (k + 1) a0 a1 a2 a3 a4 a5 a6) := by
 intro a0 a1 a2 a3 a4 a5 a6 k
 have ih0 := impl_changed_at_impl_Move_bring.mono_l k
 unfold impl_changed_at_impl_Move_bring.f
 repeat' first | (with_reducible exact ih0 _ _ _ _ _ _ _ _ _ _) | (with_reducible exact impl_IsPolygon.mono _ _) | (with_reducible exact impl_arePegs.mono _ _) | (with_reducible exact LeO.refl _) | (with_reducible exact LeO.none _) | (with_reducible refine LeO.ite ?_ ?_) | (with_reducible refine LeO.bind ?_ (fun _ => ?_)) | exact ih0 _ _ _ _ _ _ _ _ _ _ | exact impl_IsPolygon.mono _ _ | exact impl_arePegs.mono _ _ | exact LeO.none _ | refine LeO.ite ?_ ?_ | refine LeO.bind ?_ (fun _ => ?_)
set_option maxHeartbeats 8000000 in
set_option maxRecDepth 100000 in
theorem impl_changed_at_impl_Move_bring.calls (k : Nat) (A0 : Option Addr) (c0 : Nat) (l0 : List (S_impl_Peg)) (a1_0 : Int) (a1_1 : Int) (a1_2 : Int) (a1_3 : Int) (a1_4 : Int) (a1_5 : Int) (r1 : List (S_impl_Peg)) (r2 : Bool) (w : World) (hr0 : Kd.C kd_impl_Peg w A0 l0.length l0) (hc0 : l0.length ≤ c0) (h : impl_changed_at_impl_Move_bring.f k l0 a1_0 a1_1 a1_2 a1_3 a1_4 a1_5 = some (r1, r2)) :
  Calls Try.prog 82 #[.slice A0 l0.length c0, .func (.func 88) #[.agg #[.int .i64 a1_0, .int .i64 a1_1, .int .i64 a1_2, .int .i64 a1_3, .int .i64 a1_4, .int .i64 a1_5]] #[]] w fun e w' => ∃ v0_ : Value, e = .returned (.tuple #[v0_, .bool r2]) ∧ Kd.R kd_impl_Peg 26 w' w.heap.size (fun _ => True) v0_ r1 ∧ Below w.heap.size w w' := by
 have hu26 := Try.underlying26; have HR0 := aM hr0; have HC0 := aM hc0; clear hr0 hc0; have HB := aM (Below.refl w.heap.size w)
 unfold impl_changed_at_impl_Move_bring.f at h; have H := h; clear h
 replace H := bS H; obtain ⟨t356, A3, H⟩ := H
 by_cases c4 : t356 = true
 ·subst c4; replace H := iT H; obtain ⟨y357, hy357⟩ : ∃ y_ : List (S_impl_Peg), y_ = (([] : List (S_impl_Peg))) := ⟨_, rfl⟩; rw [← hy357] at H; have Ny357 := aM hy357; clear hy357; have H' := aM H; clear H
  go_enter Try.func82, Try.ntmps82
  go_wp2_with (first | ((with_reducible refine gC (f := 65) rfl ?_); refine goesL_ (some 10) rfl rfl Try.func65 kR rfl #[.slice A0 l0.length c0] rfl sQ ?_; (with_reducible refine (impl_IsPolygon.calls k _ _ l0 true _ ?side1 ?side2 A3.out).mono ?_); (case side1 => repeat (first | exact HR0.out | (with_reducible refine cA ?_ _) | (with_reducible refine cN ?_ _) | (with_reducible refine cD ?_))); (case side2 => exact HC0.out); rintro e w5 ⟨rfl, hb⟩; refine ⟨_, rfl, ?_⟩; replace HB := tB HB hb; (try clear hb); (try clear hb2); (try clear hk); (try clear hi)) | ((with_reducible refine gate_dst (N := 12) rfl ?_); refine Kd.R_lit kd_impl_Peg _ 26 ?hg (N := 12) ?hd (xs := ([] : List (S_impl_Peg))) (inner := []) (ok := fun _ => True) (okp := fun _ => True) ?hr ?hp (fun _ hk => hk) trivial (Below.refl _ _) (Nat.le_refl _) (by simp) ?_; (case hd => rfl); (case hg => rfl); (case hr => first | (go_simp; done) | (go_simp; rfl)); (case hp => exact (Reps.none _ _)); intro v358 w6 ho7 hb hg_ hnew_; clear hg_ hnew_; (first | rw [← Ny357.out] at ho7 | (simp only [Int.reduceToNat] at ho7; rw [← Ny357.out] at ho7)); have HO359 := aM (Kd.R_lower ho7 (pZ bQ)); replace HB := tB HB hb; clear hb ho7))
  go_loopg [6, 15] k (fun kq v6 v15 w' => ∃ (x6_1 : List (S_impl_Peg)) (x15_1 : Int), v15 = .int .i64 x15_1 ∧ Aside0 (impl_changed_at_impl_Move_bring.l0 kq x6_1 l0 (l0.length : Int) x15_1 a1_0 a1_1 a1_2 a1_3 a1_4 a1_5 = some (r1, r2)) ∧ Aside0 (kq ≤ k) ∧ Aside0 (Kd.R kd_impl_Peg 26 w' w.heap.size (fun _ => True) v6 x6_1) ∧ Aside0 (Below w.heap.size w w'))
  case atStart => exact ⟨(y357), (0), eQ, H', ⟨Nat.le_refl _⟩, ⟨by (with_reducible repeat (first | apply rA | apply rN | apply rD)); exact HO359.out⟩, ⟨bQ⟩⟩
  case round =>
   clear H'; (try clear c4); obtain ⟨x6_1, x15_1, rfl, HA, HK1, HO_6, HB⟩ := hrel
   cases gk with
   | zero => exact absurd HA.out (by simp [impl_changed_at_impl_Move_bring.l0])
   | succ k1 =>
    have H := HA.out; clear HA
    simp only [impl_changed_at_impl_Move_bring.l0] at H
    by_cases c8 : x15_1 < (l0.length : Int)
    ·rw [if_pos c8] at H; have c8b0 := dE c8; clear c8; replace H := iD H; obtain ⟨c9b0, H⟩ := H; replace H := iD H; obtain ⟨c10b0, H⟩ := H; replace H := bS H; obtain ⟨⟨t362, t363⟩, A11, H⟩ := H; replace H := iN H; obtain ⟨c12, H⟩ := H; have LMc12 := aM c12; clear c12; obtain ⟨y364, hy364⟩ : ∃ y_ : List (S_impl_Peg), y_ = (x6_1 ++ [(⟨t362, t363⟩ : S_impl_Peg)]) := ⟨_, rfl⟩; rw [← hy364] at H; have Ny364 := aM hy364; clear hy364; have H' := aM H; clear H; have p360 : 0 ≤ (x15_1 : Int) := dT aQ; have q360 : x15_1 < (l0.length : Int) := dT aQ; obtain ⟨ad360, e360, hx360_0, hx360_1⟩ := at_impl_Peg HR0.out x15_1 p360 q360
     cases e360
     replace hx360_0 := hC HB hx360_0; replace hx360_1 := hC HB hx360_1; replace p360 := eq_true p360; replace q360 := eq_true q360
     go_wp2_with (first | ((with_reducible refine gate_dst (N := 8) rfl ?_); refine bV 8 (cs := #[.int .i64 0, .int .i64 0]) (t := 26) rfl rfl (by first | (go_simp; done) | (go_simp; rfl)) ?_; intro gb361 hg w13 hbox hb; have BK361 := hbox; have GW361 := gZ HB hg; have GE361 := gZ HB hg; replace HO_6 := aM (Kd.R_below (Kd.R_elderB (by (with_reducible repeat (first | apply rA | apply rN | apply rD)); exact HO_6.out) gb361 (Nat.le_of_eq hg.symm)) hb); replace HB := tB HB hb; clear hb hbox hg; have hcz14_0 := vZ0 BK361; have hcz14_1 := vZ1 BK361; have hfz14_0 := kF BK361.out 0; have hfz14_1 := kF BK361.out 1) | ((with_reducible refine gate_tmp rfl ?_); refine goesLTC_ (some 22) rfl rfl Try.func88 kR rfl #[.agg #[.int .i64 a1_0, .int .i64 a1_1, .int .i64 a1_2, .int .i64 a1_3, .int .i64 a1_4, .int .i64 a1_5], .agg #[.int .i64 ((rd_impl_Peg l0 x15_1).f0), .int .i64 ((rd_impl_Peg l0 x15_1).f1)]] #[.agg #[.int .i64 a1_0, .int .i64 a1_1, .int .i64 a1_2, .int .i64 a1_3, .int .i64 a1_4, .int .i64 a1_5]] #[] rfl (by first | rfl | (simp [Act.eval]; done)) (by (try simp only [mA, mC, mN, List.append_toArray, List.nil_append, List.cons_append, List.append_nil]); (try simp only [mA, mC, mN]); first | done | rfl | (simp only [lD, lT]; rfl)) ?_; (with_reducible refine (impl_Move_bring.calls a1_0 a1_1 a1_2 a1_3 a1_4 a1_5 ((rd_impl_Peg l0 x15_1).f0) ((rd_impl_Peg l0 x15_1).f1) t362 t363 _ A11.out).mono ?_); rintro e w15 ⟨rfl, hb⟩; refine ⟨_, rfl, ?_⟩; replace HO_6 := aM (Kd.R_below (by (with_reducible repeat (first | apply rA | apply rN | apply rD)); exact (Kd.R_mono (Kd.R_far (p := ⟨gb361, 1, none⟩) (Kd.R_far (p := ⟨gb361, 0, none⟩) (Kd.R_mono HO_6.out (fun k_ hk => (⟨hk, hk.2⟩ : _ ∧ k_ ≠ gb361))) (fun _ hk => hk.2) (.int .i64 ((rd_impl_Peg l0 x15_1).f0))) (fun _ hk => hk.2) (.int .i64 ((rd_impl_Peg l0 x15_1).f1))) (fun _ h_ => h_.1))) hb); replace BK361 := aM (blk_below (g := gb361) (o := .cells #[.int .i64 ((rd_impl_Peg l0 x15_1).f0), .int .i64 ((rd_impl_Peg l0 x15_1).f1)] 26 (0, 0)) (fQ BK361) hb); replace HB := tB HB hb; (try clear hb); (try clear hb2); (try clear hk); (try clear hi)) | ((with_reducible refine gate_builtin (b := .append) (xs := #[.tmp 19, .tmp 23]) rfl ?_); at_builtin; refine Kd.R_append kd_impl_Peg (w0 := w) w.heap.size rfl (.tmp 19) (.tmp 23) 29 26 (.agg #[(.int .i64 0), (.int .i64 0)]) 16 rfl Try.underlying29 info26 rfl (by decide) (by omega) u6 x6_1 (⟨t362, t363⟩ : S_impl_Peg) [.int .i64 t362, .int .i64 t363] (fun k_ => k_ ≠ gb361) (fun _ => False) rfl rfl ?aP (fun _ hk => hk.elim) ?aF ?aO ?aB ?aS ?aL ?_; (case aP => exact kd_impl_Peg_mkM _ _ _ (⟨t362, t363⟩ : S_impl_Peg)); (case aB => exact bE); (case aF => exact (fun k_ hk => Kd.freshB (g := gb361) (o := .cells #[.int .i64 ((rd_impl_Peg l0 x15_1).f0), .int .i64 ((rd_impl_Peg l0 x15_1).f1)] 26 (0, 0)) (gQ BK361) k_ hk)); (case aO => exact (by (with_reducible repeat (first | apply rA | apply rN | apply rD)); exact Kd.R_mono HO_6.out (fun _ hk => hk.2))); (case aS => exact (pZ bE)); (case aL => have := LMc12.out; omega); intro v365 w16 ho hb hg hat; rw [← Ny364.out] at ho; have n0_ := aM (blk_grown (g := gb361) (o := .cells #[.int .i64 ((rd_impl_Peg l0 x15_1).f0), .int .i64 ((rd_impl_Peg l0 x15_1).f1)] 26 (0, 0)) (gQ BK361) hg (Kd.R_away HO_6.out (fun _ hk => hk.2))); have n1_ := aM (hb); have n2_ := aM (ho); clear BK361; clear HB; clear HO_6; have BK361 := n0_; have HB := n1_; have HO366 := n2_; clear n0_ n1_ n2_; clear ho hb hg hat))
     go_roundg k1
     case measure => have := HK1.out; omega
     case rel => exact ⟨(y364), (wrap64 (x15_1 + 1)), eQ, H', ⟨by have := HK1.out; omega⟩, ⟨by (with_reducible repeat (first | apply rA | apply rN | apply rD)); exact Kd.R_mono HO366.out (fun _ hk => trivial)⟩, ⟨bE⟩⟩
    ·rw [if_neg c8] at H; have c8b0 := decide_eq_false c8; clear c8; replace H := bS H; obtain ⟨t367, A17, H⟩ := H
     by_cases c18 : t367 = true
     ·subst c18; replace H := iT H
      simp only [Option.some.injEq, Prod.mk.injEq] at H
      obtain ⟨rfl, rfl⟩ := H; obtain ⟨Ao19, co19, eo19⟩ := Kd.R_slice HO_6.out; subst eo19
      go_wp2_with (first | ((with_reducible refine gC (f := 74) rfl ?_); refine goesL_ (some 27) rfl rfl Try.func74 kR rfl #[.slice Ao19 x6_1.length co19] rfl sQ ?_; (with_reducible refine (impl_arePegs.calls k1 _ _ x6_1 true _ ?side1 ?side2 A17.out).mono ?_); (case side1 => repeat (first | exact (rR HO_6.out).2.2 | (with_reducible refine cA ?_ _) | (with_reducible refine cN ?_ _) | (with_reducible refine cD ?_))); (case side2 => exact (rR HO_6.out).2.1); rintro e w20 ⟨rfl, hb⟩; refine ⟨_, rfl, ?_⟩; replace HO_6 := aM (Kd.R_below (by (with_reducible repeat (first | apply rA | apply rN | apply rD)); exact HO_6.out) hb); replace HB := tB HB hb; (try clear hb); (try clear hb2); (try clear hk); (try clear hi)))
      go_ret2
      exact ⟨_, by first | rfl | (simp [errW_none, errW_some] <;> rfl) | (simp [*, errW_none, errW_some] <;> rfl), by (with_reducible repeat (first | apply rA | apply rN | apply rD)); exact HO_6.out, bQ⟩
     ·replace c18 := Bool.eq_false_iff.mpr c18; subst c18; replace H := iF H
      simp only [Option.some.injEq, Prod.mk.injEq] at H
      obtain ⟨rfl, rfl⟩ := H; obtain ⟨Ao21, co21, eo21⟩ := Kd.R_slice HO_6.out; subst eo21
      go_wp2_with (first | ((with_reducible refine gC (f := 74) rfl ?_); refine goesL_ (some 27) rfl rfl Try.func74 kR rfl #[.slice Ao21 x6_1.length co21] rfl sQ ?_; (with_reducible refine (impl_arePegs.calls k1 _ _ x6_1 false _ ?side1 ?side2 A17.out).mono ?_); (case side1 => repeat (first | exact (rR HO_6.out).2.2 | (with_reducible refine cA ?_ _) | (with_reducible refine cN ?_ _) | (with_reducible refine cD ?_))); (case side2 => exact (rR HO_6.out).2.1); rintro e w22 ⟨rfl, hb⟩; refine ⟨_, rfl, ?_⟩; replace HO_6 := aM (Kd.R_below (by (with_reducible repeat (first | apply rA | apply rN | apply rD)); exact HO_6.out) hb); replace HB := tB HB hb; (try clear hb); (try clear hb2); (try clear hk); (try clear hi)))
      go_ret2
      exact ⟨_, by first | rfl | (simp [errW_none, errW_some] <;> rfl) | (simp [*, errW_none, errW_some] <;> rfl), by first | exact Kd.R_nil _ _ _ _ _ | exact Kd.N_nil _ _ _ _ _ | exact Kd.V_nil _ _ _ _ _ | exact Kd.Q_nil _ _ _ _ _ | exact Kd.S_nil _ _ _ _ _, bQ⟩
 ·replace c4 := Bool.eq_false_iff.mpr c4; subst c4; replace H := iF H
  simp only [Option.some.injEq, Prod.mk.injEq] at H
  obtain ⟨rfl, rfl⟩ := H
  go_enter Try.func82, Try.ntmps82
  go_wp2_with (first | ((with_reducible refine gC (f := 65) rfl ?_); refine goesL_ (some 10) rfl rfl Try.func65 kR rfl #[.slice A0 l0.length c0] rfl sQ ?_; (with_reducible refine (impl_IsPolygon.calls k _ _ l0 false _ ?side1 ?side2 A3.out).mono ?_); (case side1 => repeat (first | exact HR0.out | (with_reducible refine cA ?_ _) | (with_reducible refine cN ?_ _) | (with_reducible refine cD ?_))); (case side2 => exact HC0.out); rintro e w23 ⟨rfl, hb⟩; refine ⟨_, rfl, ?_⟩; replace HB := tB HB hb; (try clear hb); (try clear hb2); (try clear hk); (try clear hi)))
  go_ret2
  exact ⟨_, by first | rfl | (simp [errW_none, errW_some] <;> rfl) | (simp [*, errW_none, errW_some] <;> rfl), by first | exact Kd.R_nil _ _ _ _ _ | exact Kd.N_nil _ _ _ _ _ | exact Kd.V_nil _ _ _ _ _ | exact Kd.Q_nil _ _ _ _ _ | exact Kd.S_nil _ _ _ _ _, bQ⟩

def impl_MoveCorners.f (k : Nat) (a0_0 : Int) (a0_1 : Int) (a0_2 : Int) (a0_3 : Int) (a0_4 : Int) (a0_5 : Int) (l1 : List (S_impl_Peg)) : Option ((List (S_impl_Peg)) × Bool) := (impl_IsMove.f k a0_0 a0_1 a0_2 a0_3 a0_4 a0_5).bind fun t369 => (if t369 = true then ((impl_changed_at_impl_Move_bring.f k l1 a0_0 a0_1 a0_2 a0_3 a0_4 a0_5).bind fun bt370 => (some (bt370.1, bt370.2))) else (some (([] : List (S_impl_Peg)), false)))
theorem impl_MoveCorners.mono : ∀ a0 a1 a2 a3 a4 a5 a6 k, LeO (impl_MoveCorners.f k a0 a1 a2 a3 a4 a5 a6) (impl_MoveCorners.f (k + 1) a0 a1 a2 a3 a4 a5 a6) := by
 intro a0 a1 a2 a3 a4 a5 a6 k
 unfold impl_MoveCorners.f
 repeat' first | (with_reducible exact impl_IsMove.mono _ _ _ _ _ _ _) | (with_reducible exact impl_changed_at_impl_Move_bring.mono _ _ _ _ _ _ _ _) | (with_reducible exact LeO.refl _) | (with_reducible exact LeO.none _) | (with_reducible refine LeO.ite ?_ ?_) | (with_reducible refine LeO.bind ?_ (fun _ => ?_)) | exact impl_IsMove.mono _ _ _ _ _ _ _ | exact impl_changed_at_impl_Move_bring.mono _ _ _ _ _ _ _ _ | exact LeO.none _ | refine LeO.ite ?_ ?_ | refine LeO.bind ?_ (fun _ => ?_)
set_option maxHeartbeats 8000000 in
set_option maxRecDepth 100000 in
theorem impl_MoveCorners.calls (k : Nat) (a0_0 : Int) (a0_1 : Int) (a0_2 : Int) (a0_3 : Int) (a0_4 : Int) (a0_5 : Int) (A1 : Option Addr) (c1 : Nat) (l1 : List (S_impl_Peg)) (r1 : List (S_impl_Peg)) (r2 : Bool) (w : World) (hr1 : Kd.C kd_impl_Peg w A1 l1.length l1) (hc1 : l1.length ≤ c1) (h : impl_MoveCorners.f k a0_0 a0_1 a0_2 a0_3 a0_4 a0_5 l1 = some (r1, r2)) :
  Calls Try.prog 40 #[.agg #[.int .i64 a0_0, .int .i64 a0_1, .int .i64 a0_2, .int .i64 a0_3, .int .i64 a0_4, .int .i64 a0_5], .slice A1 l1.length c1] w fun e w' => ∃ v0_ : Value, e = .returned (.tuple #[v0_, .bool r2]) ∧ Kd.R kd_impl_Peg 26 w' w.heap.size (fun _ => True) v0_ r1 ∧ Below w.heap.size w w' := by
 have hu52 := Try.underlying52; have HR1 := aM hr1; have HC1 := aM hc1; clear hr1 hc1; have HB := aM (Below.refl w.heap.size w)
 unfold impl_MoveCorners.f at h; have H := h; clear h
 replace H := bS H; obtain ⟨t369, A3, H⟩ := H
 by_cases c4 : t369 = true
 ·subst c4; replace H := iT H; replace H := bS H; obtain ⟨⟨t370, t373⟩, A5, H⟩ := H
  simp only [Option.some.injEq, Prod.mk.injEq] at H
  obtain ⟨rfl, rfl⟩ := H
  go_enter Try.func40, Try.ntmps40
  go_wp2_with (first | ((with_reducible refine gate_dst (N := 2) rfl ?_); refine bV 2 (cs := #[.int .i64 a0_0, .int .i64 a0_1, .int .i64 a0_2, .int .i64 a0_3, .int .i64 a0_4, .int .i64 a0_5]) (t := 52) rfl rfl (by first | (go_simp; done) | (go_simp; rfl)) ?_; intro gb368 hg w6 hbox hb; have BK368 := hbox; have GW368 := gZ HB hg; have GE368 := gZ HB hg; replace HB := tB HB hb; clear hb hbox hg; have hcz7_0 := vZ0 BK368; have hcz7_1 := vZ1 BK368; have hcz7_2 := vZ2 BK368; have hcz7_3 := vZ3 BK368; have hcz7_4 := vZ4 BK368; have hcz7_5 := vZ5 BK368; have hfz7_0 := kF BK368.out 0; have hfz7_1 := kF BK368.out 1; have hfz7_2 := kF BK368.out 2; have hfz7_3 := kF BK368.out 3; have hfz7_4 := kF BK368.out 4; have hfz7_5 := kF BK368.out 5) | ((with_reducible refine gC (f := 87) rfl ?_); refine goesL_ (some 7) rfl rfl Try.func87 kR rfl #[.agg #[.int .i64 a0_0, .int .i64 a0_1, .int .i64 a0_2, .int .i64 a0_3, .int .i64 a0_4, .int .i64 a0_5]] rfl sQ ?_; (with_reducible refine (impl_IsMove.calls k a0_0 a0_1 a0_2 a0_3 a0_4 a0_5 true _ A3.out).mono ?_); rintro e w8 ⟨rfl, hb⟩; refine ⟨_, rfl, ?_⟩; replace BK368 := bB BK368 hb; replace HB := tB HB hb; (try clear hb); (try clear hb2); (try clear hk); (try clear hi); have hcz9_0 := vZ0 BK368; have hcz9_1 := vZ1 BK368; have hcz9_2 := vZ2 BK368; have hcz9_3 := vZ3 BK368; have hcz9_4 := vZ4 BK368; have hcz9_5 := vZ5 BK368; have hfz9_0 := kF BK368.out 0; have hfz9_1 := kF BK368.out 1; have hfz9_2 := kF BK368.out 2; have hfz9_3 := kF BK368.out 3; have hfz9_4 := kF BK368.out 4; have hfz9_5 := kF BK368.out 5) | ((with_reducible refine gC (f := 82) rfl ?_); refine goesL_ (some 12) rfl rfl Try.func82 kR rfl #[.slice A1 l1.length c1, .func (.func 88) #[.agg #[.int .i64 a0_0, .int .i64 a0_1, .int .i64 a0_2, .int .i64 a0_3, .int .i64 a0_4, .int .i64 a0_5]] #[]] rfl sQ ?_; (with_reducible refine (impl_changed_at_impl_Move_bring.calls k _ _ l1 a0_0 a0_1 a0_2 a0_3 a0_4 a0_5 t370 t373 _ ?side1 ?side2 A5.out).mono ?_); (case side1 => repeat (first | exact (Kd.C_below HR1.out HB.out) | (with_reducible refine cA ?_ _) | (with_reducible refine cN ?_ _) | (with_reducible refine cD ?_))); (case side2 => exact HC1.out); rintro e w10 ⟨v371, rfl, ho0, hb⟩; refine ⟨_, rfl, ?_⟩; have HO372 := aM (Kd.R_lower ho0 (pZ bE)); replace BK368 := bB BK368 hb; replace HB := tB HB hb; (try clear hb); (try clear hb2); (try clear hk); (try clear hi); (try clear ho0)))
  go_ret2
  exact ⟨_, by first | rfl | (simp [errW_none, errW_some] <;> rfl) | (simp [*, errW_none, errW_some] <;> rfl), by (with_reducible repeat (first | apply rA | apply rN | apply rD)); exact HO372.out, bE⟩
 ·replace c4 := Bool.eq_false_iff.mpr c4; subst c4; replace H := iF H
  simp only [Option.some.injEq, Prod.mk.injEq] at H
  obtain ⟨rfl, rfl⟩ := H
  go_enter Try.func40, Try.ntmps40
  go_wp2_with (first | ((with_reducible refine gate_dst (N := 2) rfl ?_); refine bV 2 (cs := #[.int .i64 a0_0, .int .i64 a0_1, .int .i64 a0_2, .int .i64 a0_3, .int .i64 a0_4, .int .i64 a0_5]) (t := 52) rfl rfl (by first | (go_simp; done) | (go_simp; rfl)) ?_; intro gb368 hg w11 hbox hb; have BK368 := hbox; have GW368 := gZ HB hg; have GE368 := gZ HB hg; replace HB := tB HB hb; clear hb hbox hg; have hcz12_0 := vZ0 BK368; have hcz12_1 := vZ1 BK368; have hcz12_2 := vZ2 BK368; have hcz12_3 := vZ3 BK368; have hcz12_4 := vZ4 BK368; have hcz12_5 := vZ5 BK368; have hfz12_0 := kF BK368.out 0; have hfz12_1 := kF BK368.out 1; have hfz12_2 := kF BK368.out 2; have hfz12_3 := kF BK368.out 3; have hfz12_4 := kF BK368.out 4; have hfz12_5 := kF BK368.out 5) | ((with_reducible refine gC (f := 87) rfl ?_); refine goesL_ (some 7) rfl rfl Try.func87 kR rfl #[.agg #[.int .i64 a0_0, .int .i64 a0_1, .int .i64 a0_2, .int .i64 a0_3, .int .i64 a0_4, .int .i64 a0_5]] rfl sQ ?_; (with_reducible refine (impl_IsMove.calls k a0_0 a0_1 a0_2 a0_3 a0_4 a0_5 false _ A3.out).mono ?_); rintro e w13 ⟨rfl, hb⟩; refine ⟨_, rfl, ?_⟩; replace BK368 := bB BK368 hb; replace HB := tB HB hb; (try clear hb); (try clear hb2); (try clear hk); (try clear hi)))
  go_ret2
  exact ⟨_, by first | rfl | (simp [errW_none, errW_some] <;> rfl) | (simp [*, errW_none, errW_some] <;> rfl), by first | exact Kd.R_nil _ _ _ _ _ | exact Kd.N_nil _ _ _ _ _ | exact Kd.V_nil _ _ _ _ _ | exact Kd.Q_nil _ _ _ _ _ | exact Kd.S_nil _ _ _ _ _, bE⟩

end Go.Proofs.Ytklhakfmegbobaa.X
