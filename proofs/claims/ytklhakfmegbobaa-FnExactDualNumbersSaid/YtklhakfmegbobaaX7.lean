-- thin
-- short
-- compact
import Derived.Test.YtklhakfmegbobaaXA
import Derived.Test.YtklhakfmegbobaaX0
import Derived.Test.YtklhakfmegbobaaX3
import Derived.Test.YtklhakfmegbobaaX4
import Derived.Test.YtklhakfmegbobaaX5
import Derived.Test.YtklhakfmegbobaaX6
namespace Go.Proofs.Ytklhakfmegbobaa.X
open Go.RowKit Go.Proofs.Ytklhakfmegbobaa.XW Go.Proofs.YtklhakfmegbobaaW.PrintWords Go.Proofs.YtklhakfmegbobaaW.PrintLast Go.Proofs.YtklhakfmegbobaaW.PrintMore
attribute [local go_sem] max2_int min2_int max_two min_two max_three min_three max_four min_four   -- for this text's walks alone
set_option linter.unusedVariables false
set_option linter.unusedSimpArgs false

def spec_duPolygon.l0 : Nat → List (S_impl_Peg) → List (S_impl_Peg) → List Int → Int → Int → Option ((List (S_impl_Peg)) × Bool)
 | 0, _, _, _, _, _ => none
 | k + 1, x4, x5, x10, x11, x12 => if x12 < x11 then (if 0 ≤ x12 then (if x12 < (x10.length : Int) then (if x12 < (x4.length : Int) then ((spec_pgIs.f ((rd_impl_Peg x4 x12).f0) ((rd_impl_Peg x4 x12).f1)).bind fun t194 => (if t194 = true then (if (rd x10 x12) = 2 then (spec_duPolygon.l0 k x4 x5 x10 x11 (wrap64 (x12 + 1))) else (if x5.length < 8796093022208 then (spec_duPolygon.l0 k x4 (x5 ++ [(⟨(rd_impl_Peg x4 x12).f0, (rd_impl_Peg x4 x12).f1⟩ : S_impl_Peg)]) x10 x11 (wrap64 (x12 + 1))) else (none))) else (some (([] : List (S_impl_Peg)), false)))) else (none)) else (none)) else (none)) else ((spec_pgFirst.f k x5).bind fun t189 => (some (t189, true)))
def spec_duPolygon.f (k : Nat) (l0 : List Int) : Option ((List (S_impl_Peg)) × Bool) := (spec_duMake.f k l0).bind fun t186 => (spec_duPolygon.l0 k t186 ([] : List (S_impl_Peg)) l0 (l0.length : Int) 0)
theorem spec_duPolygon.mono_l : ∀ k, (∀ y0 y1 y2 y3 y4, LeO (spec_duPolygon.l0 k y0 y1 y2 y3 y4) (spec_duPolygon.l0 (k + 1) y0 y1 y2 y3 y4))
 | 0 => fun _ _ _ _ _ r h => by simp [spec_duPolygon.l0] at h
 | k + 1 => by
  have ih0 := spec_duPolygon.mono_l k
  ·intro y0 y1 y2 y3 y4
   unfold spec_duPolygon.l0
   repeat' first
   | (with_reducible exact ih0 _ _ _ _ _)
   | (with_reducible exact spec_duMake.mono _ _)
   | (with_reducible exact spec_pgFirst.mono _ _)
   | (with_reducible exact LeO.refl _)
   | (with_reducible exact LeO.none _)
   | (with_reducible refine LeO.ite ?_ ?_)
   | (with_reducible refine LeO.bind ?_ (fun _ => ?_))
   | exact ih0 _ _ _ _ _
   | exact spec_duMake.mono _ _
   | exact spec_pgFirst.mono _ _
   | exact LeO.none _
   | refine LeO.ite ?_ ?_
   | refine LeO.bind ?_ (fun _ => ?_)
theorem spec_duPolygon.mono : ∀ a0 k, LeO (spec_duPolygon.f k a0) (spec_duPolygon.f (k + 1) a0) := by
 intro a0 k
 have ih0 := spec_duPolygon.mono_l k
 unfold spec_duPolygon.f
 repeat' first | (with_reducible exact ih0 _ _ _ _ _) | (with_reducible exact spec_duMake.mono _ _) | (with_reducible exact spec_pgFirst.mono _ _) | (with_reducible exact LeO.refl _) | (with_reducible exact LeO.none _) | (with_reducible refine LeO.ite ?_ ?_) | (with_reducible refine LeO.bind ?_ (fun _ => ?_)) | exact ih0 _ _ _ _ _ | exact spec_duMake.mono _ _ | exact spec_pgFirst.mono _ _ | exact LeO.none _ | refine LeO.ite ?_ ?_ | refine LeO.bind ?_ (fun _ => ?_)
set_option maxHeartbeats 8000000 in
set_option maxRecDepth 100000 in
theorem spec_duPolygon.calls (k : Nat) (A0 : Option Addr) (c0 : Nat) (l0 : List Int) (r1 : List (S_impl_Peg)) (r2 : Bool) (w : World) (hr0 : Kd.C (Kd.int .i64) w A0 l0.length l0) (hc0 : l0.length ≤ c0) (h : spec_duPolygon.f k l0 = some (r1, r2)) :
  Calls Try.prog 71 #[.slice A0 l0.length c0] w fun e w' => ∃ v0_ : Value, e = .returned (.tuple #[v0_, .bool r2]) ∧ Kd.R kd_impl_Peg 26 w' w.heap.size (fun _ => True) v0_ r1 ∧ Below w.heap.size w w' := by
 have hu26 := Try.underlying26; have HR0 := aM hr0; have HC0 := aM hc0; clear hr0 hc0; have HB := aM (Below.refl w.heap.size w)
 unfold spec_duPolygon.f at h; have H := h; clear h
 replace H := bS H; obtain ⟨t186, A2, H⟩ := H; have H' := aM H; clear H
 go_enter Try.func71, Try.ntmps71
 go_wp2_with (first | ((with_reducible refine gC (f := 117) rfl ?_); refine goesL_ (some 9) rfl rfl Try.func117 kR rfl #[.slice A0 l0.length c0] rfl sQ ?_; (with_reducible refine (spec_duMake.calls k _ _ l0 t186 _ ?side1 ?side2 A2.out).mono ?_); (case side1 => repeat (first | exact HR0.out | (with_reducible refine cA ?_ _) | (with_reducible refine cN ?_ _) | (with_reducible refine cD ?_))); (case side2 => exact HC0.out); rintro e w3 ⟨v187, rfl, ho0, hb⟩; refine ⟨_, rfl, ?_⟩; have HO188 := aM (Kd.R_lower ho0 (pZ bQ)); replace HB := tB HB hb; (try clear hb); (try clear hb2); (try clear hk); (try clear hi); (try clear ho0)))
 go_loopg [5, 12] k (fun kq v5 v12 w' => ∃ (x5_1 : List (S_impl_Peg)) (x12_1 : Int), v12 = .int .i64 x12_1 ∧ Aside0 (spec_duPolygon.l0 kq t186 x5_1 l0 (l0.length : Int) x12_1 = some (r1, r2)) ∧ Aside0 (kq ≤ k) ∧ Aside0 (Kd.R kd_impl_Peg 26 w' w.heap.size (fun k_ => some k_ ≠ (v5 : Value).ownBlock) v187 t186) ∧ Aside0 (Kd.R kd_impl_Peg 26 w' w.heap.size (fun k_ => some k_ ≠ (v187 : Value).ownBlock) v5 x5_1) ∧ Aside0 (Below w.heap.size w w'))
 case atStart => exact ⟨(([] : List (S_impl_Peg))), (0), eQ, H', ⟨Nat.le_refl _⟩, ⟨by (with_reducible repeat (first | apply rA | apply rN | apply rD)); exact Kd.R_mono HO188.out (fun _ hk => (by simp [Value.ownBlock]))⟩, ⟨by first | exact Kd.R_nil _ _ _ _ _ | exact Kd.N_nil _ _ _ _ _ | exact Kd.V_nil _ _ _ _ _ | exact Kd.Q_nil _ _ _ _ _ | exact Kd.S_nil _ _ _ _ _⟩, ⟨bQ⟩⟩
 case round =>
  clear H'; obtain ⟨x5_1, x12_1, rfl, HA, HK1, HO_4, HO_5, HB⟩ := hrel
  cases gk with
  | zero => exact absurd HA.out (by simp [spec_duPolygon.l0])
  | succ k1 =>
   have H := HA.out; clear HA
   simp only [spec_duPolygon.l0] at H
   by_cases c4 : x12_1 < (l0.length : Int)
   ·rw [if_pos c4] at H; have c4b0 := dE c4; clear c4; replace H := iD H; obtain ⟨c5b0, H⟩ := H; replace H := iD H; obtain ⟨c6b0, H⟩ := H; replace H := iD H; obtain ⟨c7b0, H⟩ := H; replace H := bS H; obtain ⟨t194, A8, H⟩ := H
    by_cases c9 : t194 = true
    ·subst c9; replace H := iT H
     by_cases c10 : (rd l0 x12_1) = 2
     ·rw [if_pos c10] at H; have c10b0 : ((rd l0 x12_1) == 2) = true := beq_iff_eq.mpr c10; have c10b1 : ((rd l0 x12_1) != 2) = false := bne_eq_false_iff_eq.mpr c10; clear c10; have H' := aM H; clear H; have p192 : 0 ≤ (x12_1 : Int) := dT aQ; have q192 : x12_1 < (l0.length : Int) := dT aQ; obtain ⟨ad192, e192, hx192_0⟩ := Kd.at_int HR0.out x12_1 p192 q192
      cases e192
      replace hx192_0 := hC HB hx192_0; replace p192 := eq_true p192; replace q192 := eq_true q192; obtain ⟨Ao11, co11, eo11⟩ := Kd.R_slice HO_4.out; subst eo11; have p193 : 0 ≤ (x12_1 : Int) := dT aQ; have q193 : x12_1 < (t186.length : Int) := dT aQ; obtain ⟨ad193, e193, hx193_0, hx193_1⟩ := at_impl_Peg (rR HO_4.out).2.2 x12_1 p193 q193
      cases e193
      replace p193 := eq_true p193; replace q193 := eq_true q193
      go_wp2_with (first | ((with_reducible refine gC (f := 57) rfl ?_); refine goesL_ (some 21) rfl rfl Try.func57 kR rfl #[.agg #[.int .i64 ((rd_impl_Peg t186 x12_1).f0), .int .i64 ((rd_impl_Peg t186 x12_1).f1)]] rfl sQ ?_; (with_reducible refine (spec_pgIs.calls ((rd_impl_Peg t186 x12_1).f0) ((rd_impl_Peg t186 x12_1).f1) true _ A8.out).mono ?_); rintro e w12 ⟨rfl, hb⟩; refine ⟨_, rfl, ?_⟩; replace HO_4 := aM (Kd.R_below (by (with_reducible repeat (first | apply rA | apply rN | apply rD)); exact HO_4.out) hb); replace HO_5 := aM (Kd.R_below (by (with_reducible repeat (first | apply rA | apply rN | apply rD)); exact HO_5.out) hb); replace HB := tB HB hb; (try clear hb); (try clear hb2); (try clear hk); (try clear hi)))
      go_roundg k1
      case measure => have := HK1.out; omega
      case rel => exact ⟨(x5_1), (wrap64 (x12_1 + 1)), eQ, H', ⟨by have := HK1.out; omega⟩, ⟨by (with_reducible repeat (first | apply rA | apply rN | apply rD)); exact HO_4.out⟩, ⟨by (with_reducible repeat (first | apply rA | apply rN | apply rD)); exact HO_5.out⟩, ⟨bQ⟩⟩
     ·rw [if_neg c10] at H; have c10b0 : ((rd l0 x12_1) == 2) = false := beq_eq_false_iff_ne.mpr c10; have c10b1 : ((rd l0 x12_1) != 2) = true := bne_iff_ne.mpr c10; replace H := iN H; obtain ⟨c13, H⟩ := H; have LMc13 := aM c13; clear c13; obtain ⟨y196, hy196⟩ : ∃ y_ : List (S_impl_Peg), y_ = (x5_1 ++ [(⟨(rd_impl_Peg t186 x12_1).f0, (rd_impl_Peg t186 x12_1).f1⟩ : S_impl_Peg)]) := ⟨_, rfl⟩; rw [← hy196] at H; have Ny196 := aM hy196; clear hy196; have H' := aM H; clear H; have p192 : 0 ≤ (x12_1 : Int) := dT aQ; have q192 : x12_1 < (l0.length : Int) := dT aQ; obtain ⟨ad192, e192, hx192_0⟩ := Kd.at_int HR0.out x12_1 p192 q192
      cases e192
      replace hx192_0 := hC HB hx192_0; replace p192 := eq_true p192; replace q192 := eq_true q192; obtain ⟨Ao14, co14, eo14⟩ := Kd.R_slice HO_4.out; subst eo14; have p193 : 0 ≤ (x12_1 : Int) := dT aQ; have q193 : x12_1 < (t186.length : Int) := dT aQ; obtain ⟨ad193, e193, hx193_0, hx193_1⟩ := at_impl_Peg (rR HO_4.out).2.2 x12_1 p193 q193
      cases e193
      replace p193 := eq_true p193; replace q193 := eq_true q193
      go_wp2_with (first | ((with_reducible refine gC (f := 57) rfl ?_); refine goesL_ (some 21) rfl rfl Try.func57 kR rfl #[.agg #[.int .i64 ((rd_impl_Peg t186 x12_1).f0), .int .i64 ((rd_impl_Peg t186 x12_1).f1)]] rfl sQ ?_; (with_reducible refine (spec_pgIs.calls ((rd_impl_Peg t186 x12_1).f0) ((rd_impl_Peg t186 x12_1).f1) true _ A8.out).mono ?_); rintro e w15 ⟨rfl, hb⟩; refine ⟨_, rfl, ?_⟩; replace HO_4 := aM (Kd.R_below (by (with_reducible repeat (first | apply rA | apply rN | apply rD)); exact HO_4.out) hb); replace HO_5 := aM (Kd.R_below (by (with_reducible repeat (first | apply rA | apply rN | apply rD)); exact HO_5.out) hb); replace HB := tB HB hb; (try clear hb); (try clear hb2); (try clear hk); (try clear hi); have p195 : 0 ≤ (x12_1 : Int) := dT aQ; have q195 : x12_1 < (t186.length : Int) := dT aQ; obtain ⟨ad195, e195, hx195_0, hx195_1⟩ := at_impl_Peg (rR HO_4.out).2.2 x12_1 p195 q195; obtain rfl : ad193 = ad195 := (by injection e195); replace p195 := eq_true p195; replace q195 := eq_true q195) | ((with_reducible refine gate_builtin (b := .append) (xs := #[.tmp 25, .tmp 30]) rfl ?_); at_builtin; refine Kd.R_append kd_impl_Peg (w0 := w) w.heap.size rfl (.tmp 25) (.tmp 30) 29 26 (.agg #[(.int .i64 0), (.int .i64 0)]) 16 rfl Try.underlying29 info26 rfl (by decide) (by omega) u5 x5_1 (⟨(rd_impl_Peg t186 x12_1).f0, (rd_impl_Peg t186 x12_1).f1⟩ : S_impl_Peg) [.int .i64 ((rd_impl_Peg t186 x12_1).f0), .int .i64 ((rd_impl_Peg t186 x12_1).f1)] (fun k_ => some k_ ≠ (.slice (some ad193) t186.length co14 : Value).ownBlock) (fun _ => False) rfl rfl ?aP (fun _ hk => hk.elim) ?aF ?aO ?aB ?aS ?aL ?_; (case aP => exact kd_impl_Peg_mkM _ _ _ (⟨(rd_impl_Peg t186 x12_1).f0, (rd_impl_Peg t186 x12_1).f1⟩ : S_impl_Peg)); (case aB => exact bQ); (case aF => exact (fun k_ hk => Kd.fresh' (Kd.R_lt (by (with_reducible repeat (first | apply rA | apply rN | apply rD)); exact HO_4.out)) k_ hk)); (case aO => exact (by (with_reducible repeat (first | apply rA | apply rN | apply rD)); exact HO_5.out)); (case aS => exact (pZ bQ)); (case aL => have := LMc13.out; omega); intro v197 w16 ho hb hg hat; rw [← Ny196.out] at ho; have n0_ := aM (Kd.R_after (ok := (fun _ => True)) (by (with_reducible repeat (first | apply rA | apply rN | apply rD)); exact Kd.R_mono HO_4.out (fun _ hk => ⟨trivial, hk⟩)) hg hat); have n1_ := aM (hb); have n2_ := aM (ho); clear HO_4; clear HB; clear HO_5; have HO_4 := n0_; have HB := n1_; have HO198 := n2_; clear n0_ n1_ n2_; clear ho hb hg hat))
      go_roundg k1
      case measure => have := HK1.out; omega
      case rel => exact ⟨(y196), (wrap64 (x12_1 + 1)), eQ, H', ⟨by have := HK1.out; omega⟩, ⟨by (with_reducible repeat (first | apply rA | apply rN | apply rD)); exact Kd.R_mono HO_4.out (fun _ hk => hk.2)⟩, ⟨by (with_reducible repeat (first | apply rA | apply rN | apply rD)); exact HO198.out⟩, ⟨bQ⟩⟩
    ·replace c9 := Bool.eq_false_iff.mpr c9; subst c9; replace H := iF H
     simp only [Option.some.injEq, Prod.mk.injEq] at H
     obtain ⟨rfl, rfl⟩ := H; have p192 : 0 ≤ (x12_1 : Int) := dT aQ; have q192 : x12_1 < (l0.length : Int) := dT aQ; obtain ⟨ad192, e192, hx192_0⟩ := Kd.at_int HR0.out x12_1 p192 q192
     cases e192
     replace hx192_0 := hC HB hx192_0; replace p192 := eq_true p192; replace q192 := eq_true q192; obtain ⟨Ao17, co17, eo17⟩ := Kd.R_slice HO_4.out; subst eo17; have p193 : 0 ≤ (x12_1 : Int) := dT aQ; have q193 : x12_1 < (t186.length : Int) := dT aQ; obtain ⟨ad193, e193, hx193_0, hx193_1⟩ := at_impl_Peg (rR HO_4.out).2.2 x12_1 p193 q193
     cases e193
     replace p193 := eq_true p193; replace q193 := eq_true q193
     go_wp2_with (first | ((with_reducible refine gC (f := 57) rfl ?_); refine goesL_ (some 21) rfl rfl Try.func57 kR rfl #[.agg #[.int .i64 ((rd_impl_Peg t186 x12_1).f0), .int .i64 ((rd_impl_Peg t186 x12_1).f1)]] rfl sQ ?_; (with_reducible refine (spec_pgIs.calls ((rd_impl_Peg t186 x12_1).f0) ((rd_impl_Peg t186 x12_1).f1) false _ A8.out).mono ?_); rintro e w18 ⟨rfl, hb⟩; refine ⟨_, rfl, ?_⟩; replace HO_4 := aM (Kd.R_below (by (with_reducible repeat (first | apply rA | apply rN | apply rD)); exact HO_4.out) hb); replace HO_5 := aM (Kd.R_below (by (with_reducible repeat (first | apply rA | apply rN | apply rD)); exact HO_5.out) hb); replace HB := tB HB hb; (try clear hb); (try clear hb2); (try clear hk); (try clear hi)))
     go_ret2
     exact ⟨_, by first | rfl | (simp [errW_none, errW_some] <;> rfl) | (simp [*, errW_none, errW_some] <;> rfl), by first | exact Kd.R_nil _ _ _ _ _ | exact Kd.N_nil _ _ _ _ _ | exact Kd.V_nil _ _ _ _ _ | exact Kd.Q_nil _ _ _ _ _ | exact Kd.S_nil _ _ _ _ _, bQ⟩
   ·rw [if_neg c4] at H; have c4b0 := decide_eq_false c4; clear c4; replace H := bS H; obtain ⟨t189, A19, H⟩ := H
    simp only [Option.some.injEq, Prod.mk.injEq] at H
    obtain ⟨rfl, rfl⟩ := H; obtain ⟨Ao20, co20, eo20⟩ := Kd.R_slice HO_5.out; subst eo20
    go_wp2_with (first | ((with_reducible refine gC (f := 77) rfl ?_); refine goesL_ (some 34) rfl rfl Try.func77 kR rfl #[.slice Ao20 x5_1.length co20] rfl sQ ?_; (with_reducible refine (spec_pgFirst.calls k1 (fun k_ => some k_ = (.slice Ao20 x5_1.length co20 : Value).ownBlock) (.slice Ao20 x5_1.length co20) x5_1 t189 w _ ?side1 ?side2 A19.out).mono ?_); (case side1 => repeat (first | (with_reducible first | exact HB.out | apply pA | apply pN | apply pD) | exact HB.out)); (case side2 => exact Kd.R_tight rfl HO_5.out); rintro e w21 ⟨v190, rfl, ho0, hb, hkp⟩; refine ⟨_, rfl, ?_⟩; have n0_ := aM (Kd.R_mono (ok' := fun k_ => some k_ ≠ (v190 : Value).ownBlock) (Kd.R_keptB (HO_4.out) hkp (fun k_ hk_ hs_ => (hk_) hs_)) (fun k_ hk_ => fun e_ => Or.elim (ho0.1 k_ e_.symm) (fun hs_ => hk_.2.1 hs_) (fun hn_ => Nat.not_le.2 hk_.2.2 hn_))); have n1_ := aM (Kd.R_mono (ok' := fun k_ => some k_ ≠ (v187 : Value).ownBlock) ho0 (fun k_ hk_ => Or.elim hk_ (fun hs_ => fun e_ => (((HO_4.out).1 k_ e_.symm)) hs_) (fun hn_ => (Kd.fresh' (Kd.R_lt (by (with_reducible repeat (first | apply rA | apply rN | apply rD)); exact HO_4.out)) k_ hn_)))); have n2_ := aM (hb); clear HO_4; clear HB; clear HO_5; have HO_4 := n0_; have HO191 := n1_; have HB := n2_; clear n0_ n1_ n2_; (try clear hb); (try clear hkp); (try clear ho0)))
    go_ret2
    exact ⟨_, by first | rfl | (simp [errW_none, errW_some] <;> rfl) | (simp [*, errW_none, errW_some] <;> rfl), by (with_reducible repeat (first | apply rA | apply rN | apply rD)); exact Kd.R_mono HO191.out (fun _ hk => trivial), bQ⟩

def spec_PolygonOfNumbers.f (k : Nat) (l0 : List Int) : Option ((List (S_impl_Peg)) × Bool) := (spec_duNumber.f k l0).bind fun t199 => (if t199 = true then ((spec_duIs.f k l0).bind fun t200 => (if t200 = true then ((spec_duPolygon.f k l0).bind fun bt201 => (some (bt201.1, bt201.2))) else (some (([] : List (S_impl_Peg)), false)))) else (some (([] : List (S_impl_Peg)), false)))
theorem spec_PolygonOfNumbers.mono : ∀ a0 k, LeO (spec_PolygonOfNumbers.f k a0) (spec_PolygonOfNumbers.f (k + 1) a0) := by
 intro a0 k
 unfold spec_PolygonOfNumbers.f
 repeat' first | (with_reducible exact spec_duIs.mono _ _) | (with_reducible exact spec_duNumber.mono _ _) | (with_reducible exact spec_duPolygon.mono _ _) | (with_reducible exact LeO.refl _) | (with_reducible exact LeO.none _) | (with_reducible refine LeO.ite ?_ ?_) | (with_reducible refine LeO.bind ?_ (fun _ => ?_)) | exact spec_duIs.mono _ _ | exact spec_duNumber.mono _ _ | exact spec_duPolygon.mono _ _ | exact LeO.none _ | refine LeO.ite ?_ ?_ | refine LeO.bind ?_ (fun _ => ?_)
set_option maxHeartbeats 8000000 in
set_option maxRecDepth 100000 in
theorem spec_PolygonOfNumbers.calls (k : Nat) (A0 : Option Addr) (c0 : Nat) (l0 : List Int) (r1 : List (S_impl_Peg)) (r2 : Bool) (w : World) (hr0 : Kd.C (Kd.int .i64) w A0 l0.length l0) (hc0 : l0.length ≤ c0) (h : spec_PolygonOfNumbers.f k l0 = some (r1, r2)) :
  Calls Try.prog 29 #[.slice A0 l0.length c0] w fun e w' => ∃ v0_ : Value, e = .returned (.tuple #[v0_, .bool r2]) ∧ Kd.R kd_impl_Peg 26 w' w.heap.size (fun _ => True) v0_ r1 ∧ Below w.heap.size w w' := by
 have HR0 := aM hr0; have HC0 := aM hc0; clear hr0 hc0; have HB := aM (Below.refl w.heap.size w)
 unfold spec_PolygonOfNumbers.f at h; have H := h; clear h
 replace H := bS H; obtain ⟨t199, A2, H⟩ := H
 by_cases c3 : t199 = true
 ·subst c3; replace H := iT H; replace H := bS H; obtain ⟨t200, A4, H⟩ := H
  by_cases c5 : t200 = true
  ·subst c5; replace H := iT H; replace H := bS H; obtain ⟨⟨t201, t202⟩, A6, H⟩ := H
   simp only [Option.some.injEq, Prod.mk.injEq] at H
   obtain ⟨rfl, rfl⟩ := H
   go_enter Try.func29, Try.ntmps29
   go_wp2_with (first | ((with_reducible refine gC (f := 69) rfl ?_); refine goesL_ (some 5) rfl rfl Try.func69 kR rfl #[.slice A0 l0.length c0] rfl sQ ?_; (with_reducible refine (spec_duNumber.calls k _ _ l0 true _ ?side1 ?side2 A2.out).mono ?_); (case side1 => repeat (first | exact HR0.out | (with_reducible refine cA ?_ _) | (with_reducible refine cN ?_ _) | (with_reducible refine cD ?_))); (case side2 => exact HC0.out); rintro e w' ⟨rfl, ⟨nd, rfl⟩⟩; refine ⟨_, rfl, ?_⟩) | (go_at_call 70; (with_reducible refine (spec_duIs.calls k _ _ l0 true _ ?side1 ?side2 A4.out).mono ?_); (case side1 => repeat (first | exact HR0.out | (with_reducible refine cA ?_ _) | (with_reducible refine cN ?_ _) | (with_reducible refine cD ?_))); (case side2 => exact HC0.out); rintro e w7 ⟨rfl, hb⟩; replace HB := tB HB hb; (try clear hb); (try clear hb2); (try clear hk); (try clear hi)) | ((with_reducible refine gC (f := 71) rfl ?_); refine goesL_ (some 13) rfl rfl Try.func71 kR rfl #[.slice A0 l0.length c0] rfl sQ ?_; (with_reducible refine (spec_duPolygon.calls k _ _ l0 t201 t202 _ ?side1 ?side2 A6.out).mono ?_); (case side1 => repeat (first | exact (Kd.C_below HR0.out HB.out) | (with_reducible refine cA ?_ _) | (with_reducible refine cN ?_ _) | (with_reducible refine cD ?_))); (case side2 => exact HC0.out); rintro e w8 ⟨v203, rfl, ho0, hb⟩; refine ⟨_, rfl, ?_⟩; have HO204 := aM (Kd.R_lower ho0 (pZ bQ)); replace HB := tB HB hb; (try clear hb); (try clear hb2); (try clear hk); (try clear hi); (try clear ho0)))
   go_ret2
   exact ⟨_, by first | rfl | (simp [errW_none, errW_some] <;> rfl) | (simp [*, errW_none, errW_some] <;> rfl), by (with_reducible repeat (first | apply rA | apply rN | apply rD)); exact HO204.out, bQ⟩
  ·replace c5 := Bool.eq_false_iff.mpr c5; subst c5; replace H := iF H
   simp only [Option.some.injEq, Prod.mk.injEq] at H
   obtain ⟨rfl, rfl⟩ := H
   go_enter Try.func29, Try.ntmps29
   go_wp2_with (first | ((with_reducible refine gC (f := 69) rfl ?_); refine goesL_ (some 5) rfl rfl Try.func69 kR rfl #[.slice A0 l0.length c0] rfl sQ ?_; (with_reducible refine (spec_duNumber.calls k _ _ l0 true _ ?side1 ?side2 A2.out).mono ?_); (case side1 => repeat (first | exact HR0.out | (with_reducible refine cA ?_ _) | (with_reducible refine cN ?_ _) | (with_reducible refine cD ?_))); (case side2 => exact HC0.out); rintro e w' ⟨rfl, ⟨nd, rfl⟩⟩; refine ⟨_, rfl, ?_⟩) | (go_at_call 70; (with_reducible refine (spec_duIs.calls k _ _ l0 false _ ?side1 ?side2 A4.out).mono ?_); (case side1 => repeat (first | exact HR0.out | (with_reducible refine cA ?_ _) | (with_reducible refine cN ?_ _) | (with_reducible refine cD ?_))); (case side2 => exact HC0.out); rintro e w9 ⟨rfl, hb⟩; replace HB := tB HB hb; (try clear hb); (try clear hb2); (try clear hk); (try clear hi)))
   go_ret2
   exact ⟨_, by first | rfl | (simp [errW_none, errW_some] <;> rfl) | (simp [*, errW_none, errW_some] <;> rfl), by first | exact Kd.R_nil _ _ _ _ _ | exact Kd.N_nil _ _ _ _ _ | exact Kd.V_nil _ _ _ _ _ | exact Kd.Q_nil _ _ _ _ _ | exact Kd.S_nil _ _ _ _ _, bQ⟩
 ·replace c3 := Bool.eq_false_iff.mpr c3; subst c3; replace H := iF H
  simp only [Option.some.injEq, Prod.mk.injEq] at H
  obtain ⟨rfl, rfl⟩ := H
  go_enter Try.func29, Try.ntmps29
  go_wp2_with (first | ((with_reducible refine gC (f := 69) rfl ?_); refine goesL_ (some 5) rfl rfl Try.func69 kR rfl #[.slice A0 l0.length c0] rfl sQ ?_; (with_reducible refine (spec_duNumber.calls k _ _ l0 false _ ?side1 ?side2 A2.out).mono ?_); (case side1 => repeat (first | exact HR0.out | (with_reducible refine cA ?_ _) | (with_reducible refine cN ?_ _) | (with_reducible refine cD ?_))); (case side2 => exact HC0.out); rintro e w' ⟨rfl, ⟨nd, rfl⟩⟩; refine ⟨_, rfl, ?_⟩))
  go_ret2
  exact ⟨_, by first | rfl | (simp [errW_none, errW_some] <;> rfl) | (simp [*, errW_none, errW_some] <;> rfl), by first | exact Kd.R_nil _ _ _ _ _ | exact Kd.N_nil _ _ _ _ _ | exact Kd.V_nil _ _ _ _ _ | exact Kd.Q_nil _ _ _ _ _ | exact Kd.S_nil _ _ _ _ _, bQ⟩

def impl_within.f (a0 : Int) (a1 : Int) (a2 : Int) : Option (Bool) := if a0 ≥ a1 then (some (decide (a0 ≤ a2))) else (some false)
set_option maxHeartbeats 8000000 in
set_option maxRecDepth 100000 in
theorem impl_within.calls (a0 : Int) (a1 : Int) (a2 : Int) (r : Bool) (w : World) (h : impl_within.f a0 a1 a2 = some r) :
  Calls Try.prog 59 #[.int .i64 a0, .int .i64 a1, .int .i64 a2] w fun e w' => e = .returned (.bool r) ∧ Drawn0 w w' := by
 unfold impl_within.f at h; have H := h; clear h
 by_cases c4 : a0 ≥ a1
 ·rw [if_pos c4] at H; have c4b0 := dE c4; clear c4; obtain rfl := Option.some.inj H
  go_enter Try.func59, Try.ntmps59
  go_wp2
  go_ret
  exact ⟨eQ, dQ⟩
 ·rw [if_neg c4] at H; have c4b0 := decide_eq_false c4; clear c4; obtain rfl := Option.some.inj H
  go_enter Try.func59, Try.ntmps59
  go_wp2
  go_ret
  exact ⟨eQ, dQ⟩

-- NOT PRINTED: function 138 (slices_IndexFunc_int)

-- NOT PRINTED: function 119 (slices_ContainsFunc_int)

def impl_areNumbers_1.f (a0 : Int) : Option (Bool) := (impl_within.f a0 (-6) 2).bind fun t205 => (some (!t205))
set_option maxHeartbeats 8000000 in
set_option maxRecDepth 100000 in
theorem impl_areNumbers_1.calls (a0 : Int) (r : Bool) (w : World) (h : impl_areNumbers_1.f a0 = some r) :
  Calls Try.prog 120 #[.int .i64 a0] w fun e w' => e = .returned (.bool r) ∧ Drawn0 w w' := by
 unfold impl_areNumbers_1.f at h; have H := h; clear h
 replace H := bS H; obtain ⟨t205, A2, H⟩ := H; obtain rfl := Option.some.inj H
 go_enter Try.func120, Try.ntmps120
 go_wp2_with (first | ((with_reducible refine gC (f := 59) rfl ?_); refine goesL_ (some 4) rfl rfl Try.func59 kR rfl #[.int .i64 a0, .int .i64 (-6), .int .i64 2] rfl sQ ?_; (with_reducible refine (impl_within.calls a0 (-6) 2 t205 _ A2.out).mono ?_); rintro e w' ⟨rfl, ⟨nd, rfl⟩⟩; refine ⟨_, rfl, ?_⟩))
 go_ret
 exact ⟨eQ, dQ⟩

def slices_IndexFunc_int_at_impl_areNumbers_1.l0 : Nat → List Int → Int → Int → Option (Int)
 | 0, _, _, _ => none
 | k + 1, x0, x7, x8 => if x8 < x7 then (if 0 ≤ x8 then (if x8 < (x0.length : Int) then ((impl_areNumbers_1.f (rd x0 x8)).bind fun t207 => (if t207 = true then (some x8) else (slices_IndexFunc_int_at_impl_areNumbers_1.l0 k x0 x7 (wrap64 (x8 + 1))))) else (none)) else (none)) else (some (-1))
def slices_IndexFunc_int_at_impl_areNumbers_1.f (k : Nat) (l0 : List Int) : Option (Int) := slices_IndexFunc_int_at_impl_areNumbers_1.l0 k l0 (l0.length : Int) 0
theorem slices_IndexFunc_int_at_impl_areNumbers_1.mono_l : ∀ k, (∀ y0 y1 y2, LeO (slices_IndexFunc_int_at_impl_areNumbers_1.l0 k y0 y1 y2) (slices_IndexFunc_int_at_impl_areNumbers_1.l0 (k + 1) y0 y1 y2))
 | 0 => fun _ _ _ r h => by simp [slices_IndexFunc_int_at_impl_areNumbers_1.l0] at h
 | k + 1 => by
  have ih0 := slices_IndexFunc_int_at_impl_areNumbers_1.mono_l k
  ·intro y0 y1 y2
   unfold slices_IndexFunc_int_at_impl_areNumbers_1.l0
   repeat' first
   | (with_reducible exact ih0 _ _ _)
   | (with_reducible exact LeO.refl _)
   | (with_reducible exact LeO.none _)
   | (with_reducible refine LeO.ite ?_ ?_)
   | (with_reducible refine LeO.bind ?_ (fun _ => ?_))
   | exact ih0 _ _ _
   | exact LeO.none _
   | refine LeO.ite ?_ ?_
   | refine LeO.bind ?_ (fun _ => ?_)
theorem slices_IndexFunc_int_at_impl_areNumbers_1.mono : ∀ a0 k, LeO (slices_IndexFunc_int_at_impl_areNumbers_1.f k a0) (slices_IndexFunc_int_at_impl_areNumbers_1.f (k + 1) a0) := by
 intro a0 k
 have ih0 := slices_IndexFunc_int_at_impl_areNumbers_1.mono_l k
 unfold slices_IndexFunc_int_at_impl_areNumbers_1.f
 repeat' first | (with_reducible exact ih0 _ _ _) | (with_reducible exact LeO.refl _) | (with_reducible exact LeO.none _) | (with_reducible refine LeO.ite ?_ ?_) | (with_reducible refine LeO.bind ?_ (fun _ => ?_)) | exact ih0 _ _ _ | exact LeO.none _ | refine LeO.ite ?_ ?_ | refine LeO.bind ?_ (fun _ => ?_)
set_option maxHeartbeats 8000000 in
set_option maxRecDepth 100000 in
theorem slices_IndexFunc_int_at_impl_areNumbers_1.calls (k : Nat) (A0 : Option Addr) (c0 : Nat) (l0 : List Int) (r : Int) (w : World) (hr0 : Kd.C (Kd.int .i64) w A0 l0.length l0) (hc0 : l0.length ≤ c0) (h : slices_IndexFunc_int_at_impl_areNumbers_1.f k l0 = some r) :
  Calls Try.prog 138 #[.slice A0 l0.length c0, .func (.func 120) #[] #[]] w fun e w' => e = .returned (.int .i64 r) ∧ Drawn0 w w' := by
 have HR0 := aM hr0; have HC0 := aM hc0; clear hr0 hc0
 unfold slices_IndexFunc_int_at_impl_areNumbers_1.f at h; have H := h; clear h
 have H' := aM H; clear H
 go_enter Try.func138, Try.ntmps138
 go_wp2
 go_loopg [8] k (fun kq v8 w' => ∃ (x8_1 : Int), v8 = .int .i64 x8_1 ∧ Aside0 (slices_IndexFunc_int_at_impl_areNumbers_1.l0 kq l0 (l0.length : Int) x8_1 = some r) ∧ Aside0 (kq ≤ k) ∧ Drawn0 w w')
 case atStart => exact ⟨(0), eQ, H', ⟨Nat.le_refl _⟩, dQ⟩
 case round =>
  clear H'; obtain ⟨x8_1, rfl, HA, HK1, ⟨m1, rfl⟩⟩ := hrel
  cases gk with
  | zero => exact absurd HA.out (by simp [slices_IndexFunc_int_at_impl_areNumbers_1.l0])
  | succ k1 =>
   have H := HA.out; clear HA
   simp only [slices_IndexFunc_int_at_impl_areNumbers_1.l0] at H
   by_cases c2 : x8_1 < (l0.length : Int)
   ·rw [if_pos c2] at H; have c2b0 := dE c2; clear c2; replace H := iD H; obtain ⟨c3b0, H⟩ := H; replace H := iD H; obtain ⟨c4b0, H⟩ := H; replace H := bS H; obtain ⟨t207, A5, H⟩ := H
    by_cases c6 : t207 = true
    ·subst c6; replace H := iT H; obtain rfl := Option.some.inj H; have p206 : 0 ≤ (x8_1 : Int) := dT aQ; have q206 : x8_1 < (l0.length : Int) := dT aQ; obtain ⟨ad206, e206, hx206_0⟩ := Kd.at_int HR0.out x8_1 p206 q206
     cases e206
     replace p206 := eq_true p206; replace q206 := eq_true q206
     go_wp2_with (first | ((with_reducible refine gate_tmp rfl ?_); refine goesLT_ (some 16) rfl rfl Try.func120 kR rfl #[.int .i64 (rd l0 x8_1)] rfl (by first | rfl | (simp [Act.eval]; done)) sQ ?_; (with_reducible refine (impl_areNumbers_1.calls (rd l0 x8_1) true _ A5.out).mono ?_); rintro e w' ⟨rfl, ⟨nd, rfl⟩⟩; refine ⟨_, rfl, ?_⟩))
     go_ret
     exact ⟨eQ, dQ⟩
    ·replace c6 := Bool.eq_false_iff.mpr c6; subst c6; replace H := iF H; have H' := aM H; clear H; have p206 : 0 ≤ (x8_1 : Int) := dT aQ; have q206 : x8_1 < (l0.length : Int) := dT aQ; obtain ⟨ad206, e206, hx206_0⟩ := Kd.at_int HR0.out x8_1 p206 q206
     cases e206
     replace p206 := eq_true p206; replace q206 := eq_true q206
     go_wp2_with (first | ((with_reducible refine gate_tmp rfl ?_); refine goesLT_ (some 16) rfl rfl Try.func120 kR rfl #[.int .i64 (rd l0 x8_1)] rfl (by first | rfl | (simp [Act.eval]; done)) sQ ?_; (with_reducible refine (impl_areNumbers_1.calls (rd l0 x8_1) false _ A5.out).mono ?_); rintro e w' ⟨rfl, ⟨nd, rfl⟩⟩; refine ⟨_, rfl, ?_⟩))
     go_roundg k1
     case measure => have := HK1.out; omega
     case rel => exact ⟨(wrap64 (x8_1 + 1)), eQ, H', ⟨by have := HK1.out; omega⟩, dQ⟩
   ·rw [if_neg c2] at H; have c2b0 := decide_eq_false c2; clear c2; obtain rfl := Option.some.inj H; go_wp2
    go_ret
    exact ⟨eQ, dQ⟩

def slices_ContainsFunc_int_at_impl_areNumbers_1.f (k : Nat) (l0 : List Int) : Option (Bool) := (slices_IndexFunc_int_at_impl_areNumbers_1.f k l0).bind fun t208 => (some (decide (t208 ≥ 0)))
theorem slices_ContainsFunc_int_at_impl_areNumbers_1.mono : ∀ a0 k, LeO (slices_ContainsFunc_int_at_impl_areNumbers_1.f k a0) (slices_ContainsFunc_int_at_impl_areNumbers_1.f (k + 1) a0) := by
 intro a0 k
 unfold slices_ContainsFunc_int_at_impl_areNumbers_1.f
 repeat' first | (with_reducible exact slices_IndexFunc_int_at_impl_areNumbers_1.mono _ _) | (with_reducible exact LeO.refl _) | (with_reducible exact LeO.none _) | (with_reducible refine LeO.ite ?_ ?_) | (with_reducible refine LeO.bind ?_ (fun _ => ?_)) | exact slices_IndexFunc_int_at_impl_areNumbers_1.mono _ _ | exact LeO.none _ | refine LeO.ite ?_ ?_ | refine LeO.bind ?_ (fun _ => ?_)
set_option maxHeartbeats 8000000 in
set_option maxRecDepth 100000 in
theorem slices_ContainsFunc_int_at_impl_areNumbers_1.calls (k : Nat) (A0 : Option Addr) (c0 : Nat) (l0 : List Int) (r : Bool) (w : World) (hr0 : Kd.C (Kd.int .i64) w A0 l0.length l0) (hc0 : l0.length ≤ c0) (h : slices_ContainsFunc_int_at_impl_areNumbers_1.f k l0 = some r) :
  Calls Try.prog 119 #[.slice A0 l0.length c0, .func (.func 120) #[] #[]] w fun e w' => e = .returned (.bool r) ∧ Drawn0 w w' := by
 have HR0 := aM hr0; have HC0 := aM hc0; clear hr0 hc0
 unfold slices_ContainsFunc_int_at_impl_areNumbers_1.f at h; have H := h; clear h
 replace H := bS H; obtain ⟨t208, A2, H⟩ := H; obtain rfl := Option.some.inj H
 go_enter Try.func119, Try.ntmps119
 go_wp2_with (first | ((with_reducible refine gC (f := 138) rfl ?_); refine goesL_ (some 7) rfl rfl Try.func138 kR rfl #[.slice A0 l0.length c0, .func (.func 120) #[] #[]] rfl sQ ?_; (with_reducible refine (slices_IndexFunc_int_at_impl_areNumbers_1.calls k _ _ l0 t208 _ ?side1 ?side2 A2.out).mono ?_); (case side1 => repeat (first | exact HR0.out | (with_reducible refine cA ?_ _) | (with_reducible refine cN ?_ _) | (with_reducible refine cD ?_))); (case side2 => exact HC0.out); rintro e w' ⟨rfl, ⟨nd, rfl⟩⟩; refine ⟨_, rfl, ?_⟩))
 go_ret
 exact ⟨eQ, dQ⟩

def impl_areNumbers.f (k : Nat) (l0 : List Int) : Option (Bool) := (impl_within.f (l0.length : Int) 3 9).bind fun t209 => (if t209 = true then ((slices_ContainsFunc_int_at_impl_areNumbers_1.f k l0).bind fun t210 => (some (!t210))) else (some false))
theorem impl_areNumbers.mono : ∀ a0 k, LeO (impl_areNumbers.f k a0) (impl_areNumbers.f (k + 1) a0) := by
 intro a0 k
 unfold impl_areNumbers.f
 repeat' first | (with_reducible exact slices_ContainsFunc_int_at_impl_areNumbers_1.mono _ _) | (with_reducible exact LeO.refl _) | (with_reducible exact LeO.none _) | (with_reducible refine LeO.ite ?_ ?_) | (with_reducible refine LeO.bind ?_ (fun _ => ?_)) | exact slices_ContainsFunc_int_at_impl_areNumbers_1.mono _ _ | exact LeO.none _ | refine LeO.ite ?_ ?_ | refine LeO.bind ?_ (fun _ => ?_)
set_option maxHeartbeats 8000000 in
set_option maxRecDepth 100000 in
theorem impl_areNumbers.calls (k : Nat) (A0 : Option Addr) (c0 : Nat) (l0 : List Int) (r : Bool) (w : World) (hr0 : Kd.C (Kd.int .i64) w A0 l0.length l0) (hc0 : l0.length ≤ c0) (h : impl_areNumbers.f k l0 = some r) :
  Calls Try.prog 72 #[.slice A0 l0.length c0] w fun e w' => e = .returned (.bool r) ∧ Drawn0 w w' := by
 have HR0 := aM hr0; have HC0 := aM hc0; clear hr0 hc0
 unfold impl_areNumbers.f at h; have H := h; clear h
 replace H := bS H; obtain ⟨t209, A2, H⟩ := H
 by_cases c3 : t209 = true
 ·subst c3; replace H := iT H; replace H := bS H; obtain ⟨t210, A4, H⟩ := H; obtain rfl := Option.some.inj H
  go_enter Try.func72, Try.ntmps72
  go_wp2_with (first | ((with_reducible refine gC (f := 59) rfl ?_); refine goesL_ (some 5) rfl rfl Try.func59 kR rfl #[.int .i64 (l0.length : Int), .int .i64 3, .int .i64 9] rfl sQ ?_; (with_reducible refine (impl_within.calls (l0.length : Int) 3 9 true _ A2.out).mono ?_); rintro e w' ⟨rfl, ⟨nd, rfl⟩⟩; refine ⟨_, rfl, ?_⟩) | (go_at_call 119; (with_reducible refine (slices_ContainsFunc_int_at_impl_areNumbers_1.calls k _ _ l0 t210 _ ?side1 ?side2 A4.out).mono ?_); (case side1 => repeat (first | exact HR0.out | (with_reducible refine cA ?_ _) | (with_reducible refine cN ?_ _) | (with_reducible refine cD ?_))); (case side2 => exact HC0.out); rintro e w' ⟨rfl, ⟨nd, rfl⟩⟩))
  go_ret
  exact ⟨eQ, dQ⟩
 ·replace c3 := Bool.eq_false_iff.mpr c3; subst c3; replace H := iF H; obtain rfl := Option.some.inj H
  go_enter Try.func72, Try.ntmps72
  go_wp2_with (first | ((with_reducible refine gC (f := 59) rfl ?_); refine goesL_ (some 5) rfl rfl Try.func59 kR rfl #[.int .i64 (l0.length : Int), .int .i64 3, .int .i64 9] rfl sQ ?_; (with_reducible refine (impl_within.calls (l0.length : Int) 3 9 false _ A2.out).mono ?_); rintro e w' ⟨rfl, ⟨nd, rfl⟩⟩; refine ⟨_, rfl, ?_⟩))
  go_ret
  exact ⟨eQ, dQ⟩

end Go.Proofs.Ytklhakfmegbobaa.X
