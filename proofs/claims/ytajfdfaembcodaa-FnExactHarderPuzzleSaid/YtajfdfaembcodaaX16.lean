-- thin
-- short
-- compact
import Derived.Test.YtajfdfaembcodaaXA
import Derived.Test.YtajfdfaembcodaaX0
import Derived.Test.YtajfdfaembcodaaX3
import Derived.Test.YtajfdfaembcodaaX4
import Derived.Test.YtajfdfaembcodaaX15
import Derived.Test.YtajfdfaembcodaaXW3
namespace Go.Proofs.Ytajfdfaembcodaa.X
open Go.RowKit Go.Proofs.Ytajfdfaembcodaa.XW Go.Proofs.YtajfdfaembcodaaW.PrintWords Go.Proofs.YtajfdfaembcodaaW.PrintLast Go.Proofs.YtajfdfaembcodaaW.PrintMore
attribute [local go_sem] max2_int min2_int max_two min_two max_three min_three max_four min_four   -- for this text's walks alone
set_option linter.unusedVariables false
set_option linter.unusedSimpArgs false

def spec_NeedlessClues.l0 : Nat → List Int → Int → Int → Int → Int → List (S_impl_Clue) → Option (List Int × Bool)
 | 0, _, _, _, _, _, _ => none
 | k + 1, x4, x5, x18, x19, x413000, x413001 => if x19 < x18 then ((spec_pzWithout.f x413001 x19).bind fun t417 => ((spec_pzAll.f k x413000 t417).bind fun t420 => (if (t420.length : Int) = x5 then (if x4.length < 17592186044416 then (spec_NeedlessClues.l0 k (x4 ++ [x19]) x5 x18 (wrap64 (x19 + 1)) x413000 x413001) else (none)) else (spec_NeedlessClues.l0 k x4 x5 x18 (wrap64 (x19 + 1)) x413000 x413001)))) else (some (x4, true))
def spec_NeedlessClues.f (k : Nat) (a0_0 : Int) (l0_1 : List (S_impl_Clue)) : Option (List Int × Bool) := (spec_pzGood.f k a0_0 l0_1).bind fun t413 => (if t413 = true then ((spec_pzAll.f k a0_0 l0_1).bind fun t414 => (spec_NeedlessClues.l0 k ([] : List Int) (t414.length : Int) (l0_1.length : Int) 0 a0_0 l0_1)) else (some (([] : List Int), false)))
theorem spec_NeedlessClues.mono_l : ∀ k, (∀ y0 y1 y2 y3 y4 y5, LeO (spec_NeedlessClues.l0 k y0 y1 y2 y3 y4 y5) (spec_NeedlessClues.l0 (k + 1) y0 y1 y2 y3 y4 y5))
 | 0 => fun _ _ _ _ _ _ r h => by simp [spec_NeedlessClues.l0] at h
 | k + 1 => by
  have ih0 := spec_NeedlessClues.mono_l k
  ·intro y0 y1 y2 y3 y4 y5
   unfold spec_NeedlessClues.l0
   repeat' first
   | (with_reducible exact ih0 _ _ _ _ _ _)
   | (with_reducible exact spec_pzAll.mono _ _ _)
   | (with_reducible exact spec_pzGood.mono _ _ _)
   | (with_reducible exact LeO.refl _)
   | (with_reducible exact LeO.none _)
   | (with_reducible refine LeO.ite ?_ ?_)
   | (with_reducible refine LeO.bind ?_ (fun _ => ?_))
   | exact ih0 _ _ _ _ _ _
   | exact spec_pzAll.mono _ _ _
   | exact spec_pzGood.mono _ _ _
   | exact LeO.none _
   | refine LeO.ite ?_ ?_
   | refine LeO.bind ?_ (fun _ => ?_)
theorem spec_NeedlessClues.mono : ∀ a0 a1 k, LeO (spec_NeedlessClues.f k a0 a1) (spec_NeedlessClues.f (k + 1) a0 a1) := by
 intro a0 a1 k
 have ih0 := spec_NeedlessClues.mono_l k
 unfold spec_NeedlessClues.f
 repeat' first | (with_reducible exact ih0 _ _ _ _ _ _) | (with_reducible exact spec_pzAll.mono _ _ _) | (with_reducible exact spec_pzGood.mono _ _ _) | (with_reducible exact LeO.refl _) | (with_reducible exact LeO.none _) | (with_reducible refine LeO.ite ?_ ?_) | (with_reducible refine LeO.bind ?_ (fun _ => ?_)) | exact ih0 _ _ _ _ _ _ | exact spec_pzAll.mono _ _ _ | exact spec_pzGood.mono _ _ _ | exact LeO.none _ | refine LeO.ite ?_ ?_ | refine LeO.bind ?_ (fun _ => ?_)
def spec_NeedlessClues.T8 : Bool × List (List Nat × List Nat) := (true, [([], []), ([0], [0]), ([], []), ([2], [2]), ([], []), ([3, 4], [3, 4]), ([1, 5, 5], [1, 5]), ([6], [6]), ([], []), ([7, 8], [7, 8])])
def spec_NeedlessClues.B8 : List Nat := [0, 1, 0, 4, 0, 28, 63, 127, 0, 511]
theorem spec_NeedlessClues.tab8 : rtab .any (opsOf Try.f21 8) = spec_NeedlessClues.T8 := by kernel_rfl
theorem spec_NeedlessClues.bits8 : waitsOk spec_NeedlessClues.T8.2 spec_NeedlessClues.B8 = true := by kernel_rfl
set_option maxHeartbeats 8000000 in
set_option maxRecDepth 100000 in
theorem spec_NeedlessClues.calls (k : Nat) (a0_0 : Int) (A0_1 : Option Addr) (c0_1 : Nat) (l0_1 : List (S_impl_Clue)) (r1 : List Int) (r2 : Bool) (w : World) (hr0_1 : Kd.C kd_impl_Clue w A0_1 l0_1.length l0_1) (hc0_1 : l0_1.length ≤ c0_1) (h : spec_NeedlessClues.f k a0_0 l0_1 = some (r1, r2)) :
  Calls Try.prog 21 #[.agg #[.int .i64 a0_0, .slice A0_1 l0_1.length c0_1]] w fun e w' => ∃ v0_ : Value, e = .returned (.tuple #[v0_, .bool r2]) ∧ Kd.R (Kd.int .i64) 3 w' w.heap.size (fun _ => True) v0_ r1 ∧ Below w.heap.size w w' := by
 have hu31 := Try.underlying31; have HR0_1 := aM hr0_1; have HC0_1 := aM hc0_1; clear hr0_1 hc0_1; have HB := aM (Below.refl w.heap.size w)
 unfold spec_NeedlessClues.f at h; have H := h; clear h
 replace H := bS H; obtain ⟨t413, A2, H⟩ := H
 by_cases c3 : t413 = true
 ·subst c3; replace H := iT H; replace H := bS H; obtain ⟨t414, A4, H⟩ := H; have H' := aM H; clear H
  go_enter Try.func21, Try.ntmps21
  go_wp2_with (first | ((with_reducible refine gate_dst (N := 1) rfl ?_); refine bV 1 (cs := #[.int .i64 a0_0, .slice A0_1 l0_1.length c0_1]) (t := 31) rfl rfl (by first | (go_simp; done) | (go_simp; rfl)) ?_; intro gb412 hg w5 hbox hb; have BK412 := hbox; have GW412 := gZ HB hg; have GE412 := gZ HB hg; replace HB := tB HB hb; clear hb hbox hg; have hcz6_0 := vZ0 BK412; have hcz6_1 := vZ1 BK412; have hfz6_0 := kF BK412.out 0; have hfz6_1 := kF BK412.out 1) | ((with_reducible refine gC (f := 27) rfl ?_); refine goesL_ (some 8) rfl rfl Try.func27 kR rfl #[.agg #[.int .i64 a0_0, .slice A0_1 l0_1.length c0_1]] rfl sQ ?_; (with_reducible refine (spec_pzGood.calls k a0_0 _ _ l0_1 true _ ?side1 ?side2 A2.out).mono ?_); (case side1 => repeat (first | exact (Kd.C_below HR0_1.out HB.out) | (with_reducible refine cA ?_ _) | (with_reducible refine cN ?_ _) | (with_reducible refine cD ?_))); (case side2 => exact HC0_1.out); rintro e w7 ⟨rfl, hb⟩; refine ⟨_, rfl, ?_⟩; replace BK412 := bB BK412 hb; replace HB := tB HB hb; (try clear hb); (try clear hb2); (try clear hk); (try clear hi); have hcz8_0 := vZ0 BK412; have hcz8_1 := vZ1 BK412; have hfz8_0 := kF BK412.out 0; have hfz8_1 := kF BK412.out 1) | ((with_reducible refine gC (f := 28) rfl ?_); refine goesL_ (some 14) rfl rfl Try.func28 kR rfl #[.int .i64 a0_0, .slice A0_1 l0_1.length c0_1] rfl sQ ?_; (with_reducible refine (spec_pzAll.calls k a0_0 _ _ l0_1 t414 _ ?side1 ?side2 A4.out).mono ?_); (case side1 => repeat (first | exact (Kd.C_below HR0_1.out HB.out) | (with_reducible refine cA ?_ _) | (with_reducible refine cN ?_ _) | (with_reducible refine cD ?_))); (case side2 => exact HC0_1.out); rintro e w9 ⟨v415, rfl, ho0, hb⟩; refine ⟨_, rfl, ?_⟩; have HO416 := aM (Kd.R_lower ho0 (pZ bE)); replace BK412 := bB BK412 hb; replace HB := tB HB hb; (try clear hb); (try clear hb2); (try clear hk); (try clear hi); (try clear ho0); obtain ⟨Ao10, co10, eo10⟩ := Kd.R_slice HO416.out; subst eo10; have hcz11_0 := vZ0 BK412; have hcz11_1 := vZ1 BK412; have hfz11_0 := kF BK412.out 0; have hfz11_1 := kF BK412.out 1))
  go_loopg [4, 19] k (fun kq v4 v19 w' => ∃ (x4_1 : List Int) (x19_1 : Int), v19 = .int .i64 x19_1 ∧ Aside0 (spec_NeedlessClues.l0 kq x4_1 (t414.length : Int) (l0_1.length : Int) x19_1 a0_0 l0_1 = some (r1, r2)) ∧ Aside0 (kq ≤ k) ∧ Aside0 (Kd.R (Kd.int .i64) 3 w' w.heap.size (fun _ => True) v4 x4_1) ∧ Aside0 (w'.heap[gb412]? = some (.cells #[.int .i64 a0_0, (.slice A0_1 l0_1.length c0_1)] 31 (0, 0))) ∧ Aside0 (Below w.heap.size w w'))
  case atStart => exact ⟨(([] : List Int)), (0), eQ, H', ⟨Nat.le_refl _⟩, ⟨by first | exact Kd.R_nil _ _ _ _ _ | exact Kd.N_nil _ _ _ _ _ | exact Kd.V_nil _ _ _ _ _ | exact Kd.Q_nil _ _ _ _ _ | exact Kd.S_nil _ _ _ _ _⟩, ⟨gQ BK412⟩, ⟨bE⟩⟩
  case round =>
   clear H'; (try clear c3); (try clear hcz11_0); (try clear hcz11_1); (try clear hcz6_0); (try clear hcz6_1); (try clear hcz8_0); (try clear hcz8_1); (try clear hfz11_0); (try clear hfz11_1); (try clear hfz6_0); (try clear hfz6_1); (try clear hfz8_0); (try clear hfz8_1); obtain ⟨x4_1, x19_1, rfl, HA, HK1, HO_4, BK412, HB⟩ := hrel
   cases gk with
   | zero => exact absurd HA.out (by simp [spec_NeedlessClues.l0])
   | succ k1 =>
    have H := HA.out; clear HA
    simp only [spec_NeedlessClues.l0] at H
    by_cases c12 : x19_1 < (l0_1.length : Int)
    ·rw [if_pos c12] at H; have c12b0 := dE c12; clear c12; replace H := bS H; obtain ⟨t417, A13, H⟩ := H; replace H := bS H; obtain ⟨t420, A14, H⟩ := H
     by_cases c15 : (t420.length : Int) = (t414.length : Int)
     ·rw [if_pos c15] at H; have c15b0 : ((t420.length : Int) == (t414.length : Int)) = true := beq_iff_eq.mpr c15; have c15b1 : ((t420.length : Int) != (t414.length : Int)) = false := bne_eq_false_iff_eq.mpr c15; have c15b2 : (t420.length == t414.length) = true := by first | simpa using c15 | (simp at c15 ⊢; omega)
      clear c15; replace H := iN H; obtain ⟨c16, H⟩ := H; have LMc16 := aM c16; clear c16; obtain ⟨y423, hy423⟩ : ∃ y_ : List Int, y_ = (x4_1 ++ [x19_1]) := ⟨_, rfl⟩; rw [← hy423] at H; have Ny423 := aM hy423; clear hy423; have H' := aM H; clear H
      try go_wp2
      replace HO_4 := aM (rD HO_4.out); replace BK412 := aM (kD BK412.out); replace HB := aM (pD HB.out)
      refine start_ (n := 10) (S := fun w' => w'.cell? ⟨gb412, 0, none⟩ = some (.int .i64 a0_0) ∧ w'.cell? ⟨gb412, 1, none⟩ = some (.slice A0_1 l0_1.length c0_1)) (ds := []) (bA 10 0) kR rfl kR ⟨vZ0 BK412, vZ1 BK412⟩ (fun hHeld => ?_); refine with_tabW spec_NeedlessClues.tab8 spec_NeedlessClues.bits8 (fun HT_ HW_ => ?_)
      generalize wr.drew = w17 at HO_4 BK412 HB hHeld ⊢
      refine pU 0 22 (bA 10 1) HT_ ?_; refine pU 2 24 (bA 10 5) HT_ ?_; refine pU 4 26 (bA 10 21) HT_ ?_; refine pU 8 30 (bA 10 277) HT_ ?_
      refine tU 1 23 (bA 10 279) HT_ HW_ hHeld ?_ (hy := Or.inl ⟨by rfl, by rintro w' ⟨s0, s1⟩; go_simp; with_reducible rfl⟩)
      refine tU 3 25 (bA 10 287) HT_ HW_ hHeld ?_ (hy := Or.inl ⟨by rfl, by rintro w' ⟨s0, s1⟩; go_simp; with_reducible rfl⟩)
      refine oU 5 27 (bA 10 319) HT_ (fun K hK => ?_)
      refine goes_ Try.func36 kR rfl #[.slice A0_1 l0_1.length c0_1, .int .i64 x19_1] (by rfl) rfl rfl sQ ?_
      with_reducible refine (spec_pzWithout.calls _ _ l0_1 x19_1 t417 _ ?side1 ?side2 A13.out).mono ?_
      (case side1 => repeat (first | exact (Kd.C_below HR0_1.out HB.out) | (with_reducible refine cA ?_ _) | (with_reducible refine cN ?_ _) | (with_reducible refine cD ?_)))
      (case side2 => exact HC0_1.out)
      rintro e w18 ⟨v418, rfl, ho0, hb⟩; refine ⟨_, rfl, ?_⟩; have HO419 := aM (Kd.R_lower ho0 (pZ bE)); replace HO_4 := aM (Kd.R_below (by (with_reducible repeat (first | apply rA | apply rN | apply rD)); exact HO_4.out) hb); replace BK412 := bB BK412 hb; replace HB := tB HB hb
      (try clear hb); (try clear hb2); (try clear hk); (try clear hi); (try clear ho0); obtain ⟨Ao19, co19, eo19⟩ := Kd.R_slice HO419.out
      (first | subst eo19 | (injection eo19 with f1_ f2_ f3_; have f4_ := f1_.symm; have f5_ := f3_.symm; clear f1_ f2_ f3_; subst f4_; subst f5_))
      refine hK.out _ _ ⟨vZ0 BK412, vZ1 BK412⟩ (fun hHeld => ?_)
      clear hK K
      refine nU ?_
      refine oU 6 28 (bA 10 383) HT_ (fun K hK => ?_)
      refine goes_ Try.func28 kR rfl #[.int .i64 a0_0, .slice Ao19 t417.length co19] (by rfl) rfl rfl sQ ?_
      with_reducible refine (spec_pzAll.calls k1 a0_0 _ _ t417 t420 _ ?side1 ?side2 A14.out).mono ?_
      (case side1 => repeat (first | exact (rR HO419.out).2.2 | (with_reducible refine cA ?_ _) | (with_reducible refine cN ?_ _) | (with_reducible refine cD ?_)))
      (case side2 => exact (rR HO419.out).2.1)
      rintro e w20 ⟨v421, rfl, ho0, hb⟩; refine ⟨_, rfl, ?_⟩; have HO422 := aM (Kd.R_lower ho0 (pZ bE)); replace HO_4 := aM (Kd.R_below (by (with_reducible repeat (first | apply rA | apply rN | apply rD)); exact HO_4.out) hb); replace HO419 := aM (Kd.R_below (by (with_reducible repeat (first | apply rA | apply rN | apply rD)); exact HO419.out) hb); replace BK412 := bB BK412 hb; replace HB := tB HB hb
      (try clear hb); (try clear hb2); (try clear hk); (try clear hi); (try clear ho0); obtain ⟨Ao21, co21, eo21⟩ := Kd.R_slice HO422.out
      (first | subst eo21 | (injection eo21 with f1_ f2_ f3_; have f4_ := f1_.symm; have f5_ := f3_.symm; clear f1_ f2_ f3_; subst f4_; subst f5_))
      refine hK.out _ _ ⟨vZ0 BK412, vZ1 BK412⟩ (fun hHeld => ?_)
      clear hK K
      refine nU ?_
      refine pU 7 29 (bA 10 511) HT_ ?_; refine pU 9 31 (bA 10 1023) HT_ ?_
      refine done_ (done_of HT_.out kR) ?_
      try go_wp2_with (first | ((with_reducible refine gate_builtin (b := .append) (xs := #[.tmp 32, .tmp 34]) rfl ?_); at_builtin; refine Kd.R_append (Kd.int .i64) (w0 := w) w.heap.size rfl (.tmp 32) (.tmp 34) 26 3 (.int .i64 0) 8 rfl Try.underlying26 info3 rfl (by decide) (by omega) u4 x4_1 x19_1 [.int .i64 x19_1] (fun _ => True) (fun _ => False) rfl rfl ?aP (fun _ hk => hk.elim) ?aF ?aO ?aB ?aS ?aL ?_; (case aP => exact rfl); (case aB => exact bE); (case aF => exact (fun _ _ => trivial)); (case aO => exact (by (with_reducible repeat (first | apply rA | apply rN | apply rD)); exact HO_4.out)); (case aS => exact (pZ bE)); (case aL => have := LMc16.out; omega); intro v424 w22 ho hb hg hat; rw [← Ny423.out] at ho; have n0_ := aM (blk_grown (g := gb412) (o := .cells #[.int .i64 a0_0, .slice A0_1 l0_1.length c0_1] 31 (0, 0)) (gQ BK412) hg (Kd.R_ne HO_4.out BK412.out (by decide))); have n1_ := aM (Kd.R_over' (by (with_reducible repeat (first | apply rA | apply rN | apply rD)); exact HO419.out) (Kd.R_typed (by (with_reducible repeat (first | apply rA | apply rN | apply rD)); exact HO_4.out)) (by decide) hg); have n2_ := aM (Kd.R_over' (by (with_reducible repeat (first | apply rA | apply rN | apply rD)); exact HO422.out) (Kd.R_typed (by (with_reducible repeat (first | apply rA | apply rN | apply rD)); exact HO_4.out)) (by decide) hg); have n3_ := aM (hb); have n4_ := aM (ho); clear BK412; clear HO419; clear HO422; clear HB; clear HO_4; have BK412 := n0_; have HO419 := n1_; have HO422 := n2_; have HB := n3_; have HO425 := n4_; clear n0_ n1_ n2_ n3_ n4_; clear ho hb hg hat))
      go_roundg k1
      case measure => have := HK1.out; omega
      case rel => exact ⟨(y423), (wrap64 (x19_1 + 1)), eQ, H', ⟨by have := HK1.out; omega⟩, ⟨by (with_reducible repeat (first | apply rA | apply rN | apply rD)); exact HO425.out⟩, ⟨gQ BK412⟩, ⟨bE⟩⟩
     ·rw [if_neg c15] at H; have c15b0 : ((t420.length : Int) == (t414.length : Int)) = false := beq_eq_false_iff_ne.mpr c15; have c15b1 : ((t420.length : Int) != (t414.length : Int)) = true := bne_iff_ne.mpr c15; have c15b2 : (t420.length == t414.length) = false := by first | simpa using c15 | (simp at c15 ⊢; omega)
      have H' := aM H; clear H
      try go_wp2
      replace HO_4 := aM (rD HO_4.out); replace BK412 := aM (kD BK412.out); replace HB := aM (pD HB.out)
      refine start_ (n := 10) (S := fun w' => w'.cell? ⟨gb412, 0, none⟩ = some (.int .i64 a0_0) ∧ w'.cell? ⟨gb412, 1, none⟩ = some (.slice A0_1 l0_1.length c0_1)) (ds := []) (bA 10 0) kR rfl kR ⟨vZ0 BK412, vZ1 BK412⟩ (fun hHeld => ?_); refine with_tabW spec_NeedlessClues.tab8 spec_NeedlessClues.bits8 (fun HT_ HW_ => ?_)
      generalize wr.drew = w23 at HO_4 BK412 HB hHeld ⊢
      refine pU 0 22 (bA 10 1) HT_ ?_; refine pU 2 24 (bA 10 5) HT_ ?_; refine pU 4 26 (bA 10 21) HT_ ?_; refine pU 8 30 (bA 10 277) HT_ ?_
      refine tU 1 23 (bA 10 279) HT_ HW_ hHeld ?_ (hy := Or.inl ⟨by rfl, by rintro w' ⟨s0, s1⟩; go_simp; with_reducible rfl⟩)
      refine tU 3 25 (bA 10 287) HT_ HW_ hHeld ?_ (hy := Or.inl ⟨by rfl, by rintro w' ⟨s0, s1⟩; go_simp; with_reducible rfl⟩)
      refine oU 5 27 (bA 10 319) HT_ (fun K hK => ?_)
      refine goes_ Try.func36 kR rfl #[.slice A0_1 l0_1.length c0_1, .int .i64 x19_1] (by rfl) rfl rfl sQ ?_
      with_reducible refine (spec_pzWithout.calls _ _ l0_1 x19_1 t417 _ ?side1 ?side2 A13.out).mono ?_
      (case side1 => repeat (first | exact (Kd.C_below HR0_1.out HB.out) | (with_reducible refine cA ?_ _) | (with_reducible refine cN ?_ _) | (with_reducible refine cD ?_)))
      (case side2 => exact HC0_1.out)
      rintro e w24 ⟨v418, rfl, ho0, hb⟩; refine ⟨_, rfl, ?_⟩; have HO419 := aM (Kd.R_lower ho0 (pZ bE)); replace HO_4 := aM (Kd.R_below (by (with_reducible repeat (first | apply rA | apply rN | apply rD)); exact HO_4.out) hb); replace BK412 := bB BK412 hb; replace HB := tB HB hb
      (try clear hb); (try clear hb2); (try clear hk); (try clear hi); (try clear ho0); obtain ⟨Ao25, co25, eo25⟩ := Kd.R_slice HO419.out
      (first | subst eo25 | (injection eo25 with f1_ f2_ f3_; have f4_ := f1_.symm; have f5_ := f3_.symm; clear f1_ f2_ f3_; subst f4_; subst f5_))
      refine hK.out _ _ ⟨vZ0 BK412, vZ1 BK412⟩ (fun hHeld => ?_)
      clear hK K
      refine nU ?_
      refine oU 6 28 (bA 10 383) HT_ (fun K hK => ?_)
      refine goes_ Try.func28 kR rfl #[.int .i64 a0_0, .slice Ao25 t417.length co25] (by rfl) rfl rfl sQ ?_
      with_reducible refine (spec_pzAll.calls k1 a0_0 _ _ t417 t420 _ ?side1 ?side2 A14.out).mono ?_
      (case side1 => repeat (first | exact (rR HO419.out).2.2 | (with_reducible refine cA ?_ _) | (with_reducible refine cN ?_ _) | (with_reducible refine cD ?_)))
      (case side2 => exact (rR HO419.out).2.1)
      rintro e w26 ⟨v421, rfl, ho0, hb⟩; refine ⟨_, rfl, ?_⟩; have HO422 := aM (Kd.R_lower ho0 (pZ bE)); replace HO_4 := aM (Kd.R_below (by (with_reducible repeat (first | apply rA | apply rN | apply rD)); exact HO_4.out) hb); replace HO419 := aM (Kd.R_below (by (with_reducible repeat (first | apply rA | apply rN | apply rD)); exact HO419.out) hb); replace BK412 := bB BK412 hb; replace HB := tB HB hb
      (try clear hb); (try clear hb2); (try clear hk); (try clear hi); (try clear ho0); obtain ⟨Ao27, co27, eo27⟩ := Kd.R_slice HO422.out
      (first | subst eo27 | (injection eo27 with f1_ f2_ f3_; have f4_ := f1_.symm; have f5_ := f3_.symm; clear f1_ f2_ f3_; subst f4_; subst f5_))
      refine hK.out _ _ ⟨vZ0 BK412, vZ1 BK412⟩ (fun hHeld => ?_)
      clear hK K
      refine nU ?_
      refine pU 7 29 (bA 10 511) HT_ ?_; refine pU 9 31 (bA 10 1023) HT_ ?_
      refine done_ (done_of HT_.out kR) ?_
      try go_wp2
      go_roundg k1
      case measure => have := HK1.out; omega
      case rel => exact ⟨(x4_1), (wrap64 (x19_1 + 1)), eQ, H', ⟨by have := HK1.out; omega⟩, ⟨by (with_reducible repeat (first | apply rA | apply rN | apply rD)); exact HO_4.out⟩, ⟨gQ BK412⟩, ⟨bE⟩⟩
    ·rw [if_neg c12] at H; have c12b0 := decide_eq_false c12; clear c12
     simp only [Option.some.injEq, Prod.mk.injEq] at H
     obtain ⟨rfl, rfl⟩ := H; go_wp2
     go_ret2
     exact ⟨_, by first | rfl | (simp [errW_none, errW_some] <;> rfl) | (simp [*, errW_none, errW_some] <;> rfl), by (with_reducible repeat (first | apply rA | apply rN | apply rD)); exact HO_4.out, bE⟩
 ·replace c3 := Bool.eq_false_iff.mpr c3; subst c3; replace H := iF H
  simp only [Option.some.injEq, Prod.mk.injEq] at H
  obtain ⟨rfl, rfl⟩ := H
  go_enter Try.func21, Try.ntmps21
  go_wp2_with (first | ((with_reducible refine gate_dst (N := 1) rfl ?_); refine bV 1 (cs := #[.int .i64 a0_0, .slice A0_1 l0_1.length c0_1]) (t := 31) rfl rfl (by first | (go_simp; done) | (go_simp; rfl)) ?_; intro gb412 hg w28 hbox hb; have BK412 := hbox; have GW412 := gZ HB hg; have GE412 := gZ HB hg; replace HB := tB HB hb; clear hb hbox hg; have hcz29_0 := vZ0 BK412; have hcz29_1 := vZ1 BK412; have hfz29_0 := kF BK412.out 0; have hfz29_1 := kF BK412.out 1) | ((with_reducible refine gC (f := 27) rfl ?_); refine goesL_ (some 8) rfl rfl Try.func27 kR rfl #[.agg #[.int .i64 a0_0, .slice A0_1 l0_1.length c0_1]] rfl sQ ?_; (with_reducible refine (spec_pzGood.calls k a0_0 _ _ l0_1 false _ ?side1 ?side2 A2.out).mono ?_); (case side1 => repeat (first | exact (Kd.C_below HR0_1.out HB.out) | (with_reducible refine cA ?_ _) | (with_reducible refine cN ?_ _) | (with_reducible refine cD ?_))); (case side2 => exact HC0_1.out); rintro e w30 ⟨rfl, hb⟩; refine ⟨_, rfl, ?_⟩; replace BK412 := bB BK412 hb; replace HB := tB HB hb; (try clear hb); (try clear hb2); (try clear hk); (try clear hi)))
  go_ret2
  exact ⟨_, by first | rfl | (simp [errW_none, errW_some] <;> rfl) | (simp [*, errW_none, errW_some] <;> rfl), by first | exact Kd.R_nil _ _ _ _ _ | exact Kd.N_nil _ _ _ _ _ | exact Kd.V_nil _ _ _ _ _ | exact Kd.Q_nil _ _ _ _ _ | exact Kd.S_nil _ _ _ _ _, bE⟩

def slices_Clone_impl_Clue.f (l0 : List (S_impl_Clue)) : Option ((List (S_impl_Clue))) := (some (([] : List (S_impl_Clue)) : List (S_impl_Clue))).bind fun y426 => (if y426.length + l0.length < 4398046511104 then (some (y426 ++ l0)) else (none))
set_option maxHeartbeats 8000000 in
set_option maxRecDepth 100000 in
theorem slices_Clone_impl_Clue.calls (A0 : Option Addr) (c0 : Nat) (l0 : List (S_impl_Clue)) (r : List (S_impl_Clue)) (w : World) (hr0 : Kd.C kd_impl_Clue w A0 l0.length l0) (hc0 : l0.length ≤ c0) (h : slices_Clone_impl_Clue.f l0 = some r) :
  Calls Try.prog 40 #[.slice A0 l0.length c0] w fun e w' => ∃ v0_ : Value, e = .returned (v0_) ∧ Kd.R kd_impl_Clue 61 w' w.heap.size (fun _ => True) v0_ r ∧ Below w.heap.size w w' := by
 by_cases hA_ : A0 = none
 ·subst hA_; have hn_ : l0 = [] := by
   rcases Nat.eq_zero_or_pos l0.length with h0_ | h0_
   ·exact List.eq_nil_of_length_eq_zero h0_
   ·obtain ⟨ad_, e_, _⟩ := hr0.2.2 h0_
    cases e_
  subst hn_; have hr_ : r = [] := by
   unfold slices_Clone_impl_Clue.f at h
   simp at h
   first | exact h | exact h.symm
  subst hr_; have hq_ := eq_nil (P := Try.prog) 29 61 Try.underlying29 none c0
  simp only [Option.isNone_none] at hq_
  go_enter Try.func40, Try.ntmps40
  go_wp2
  go_ret
  exact ⟨_, rfl, Kd.R_nil _ _ _ _ _, Below.refl _ _⟩
 obtain ⟨ad_, rfl⟩ := Option.ne_none_iff_exists'.1 hA_; have hq_ := eq_nil (P := Try.prog) 29 61 Try.underlying29 (some ad_) c0
 simp only [Option.isNone_some] at hq_
 have HR0 := aM hr0; have HC0 := aM hc0; clear hr0 hc0; have HB := aM (Below.refl w.heap.size w)
 unfold slices_Clone_impl_Clue.f at h; have H := h; clear h
 replace H := lS H; obtain ⟨y426, Ny426, H⟩ := H; replace H := iN H; obtain ⟨c2, H⟩ := H; have LMc2 := aM c2; clear c2; obtain ⟨y429, hy429⟩ : ∃ y_ : List (S_impl_Clue), y_ = (y426 ++ l0) := ⟨_, rfl⟩; rw [← hy429] at H; have Ny429 := aM hy429; clear hy429; obtain rfl := Option.some.inj H
 go_enter Try.func40, Try.ntmps40
 go_wp2_with (first | ((with_reducible refine gate_dst (N := 5) rfl ?_); refine Kd.R_lit kd_impl_Clue _ 61 ?hg (N := 5) ?hd (xs := ([] : List (S_impl_Clue))) (inner := []) (ok := fun _ => True) (okp := fun _ => True) ?hr ?hp (fun _ hk => hk) trivial (Below.refl _ _) (Nat.le_refl _) (by simp) ?_; (case hd => rfl); (case hg => rfl); (case hr => first | (go_simp; done) | (go_simp; rfl)); (case hp => exact (Reps.none _ _)); intro v427 w3 ho4 hb hg_ hnew_; clear hg_ hnew_; (first | rw [← Ny426.out] at ho4 | (simp only [Int.reduceToNat] at ho4; rw [← Ny426.out] at ho4)); have HO428 := aM (Kd.R_lower ho4 (pZ bQ)); replace HB := tB HB hb; clear hb ho4) | ((with_reducible refine gate_builtin (b := .append) (xs := #[.tmp 5, .tmp 6]) rfl ?_); at_builtin; refine Kd.R_append_rows kd_impl_Clue (w0 := w) w.heap.size rfl (.tmp 5) (.tmp 6) 29 61 (.agg #[(.int .i64 0), (.int .i64 0), (.int .i64 0), (.int .i64 0)]) 32 rfl Try.underlying29 info61 rfl (by decide) (by omega) v427 y426 l0 _ _ _ (fun _ => True) (fun _ => False) rfl rfl ?aO ?aR (fun _ _ h => h) (fun _ h => h.elim) ?aF ?aB ?aS ?aL ?_; (case aR => repeat (first | exact (Kd.C_below HR0.out HB.out) | (with_reducible refine cA ?_ _) | (with_reducible refine cN ?_ _) | (with_reducible refine cD ?_))); (case aB => exact bQ); (case aF => exact (fun _ _ => trivial)); (case aO => exact (by (with_reducible repeat (first | apply rA | apply rN | apply rD)); exact HO428.out)); (case aS => exact (pZ bQ)); (case aL => have := LMc2.out; omega); intro v430 w5 ho hb hg hat; rw [← Ny429.out] at ho; have n0_ := aM (hb); have n1_ := aM (ho); clear HB; clear HO428; have HB := n0_; have HO431 := n1_; clear n0_ n1_; clear ho hb hg hat))
 go_ret
 exact ⟨_, by first | rfl | (simp [errW_none, errW_some] <;> rfl) | (simp [*, errW_none, errW_some] <;> rfl), by (with_reducible repeat (first | apply rA | apply rN | apply rD)); exact HO431.out, bQ⟩
end Go.Proofs.Ytajfdfaembcodaa.X
