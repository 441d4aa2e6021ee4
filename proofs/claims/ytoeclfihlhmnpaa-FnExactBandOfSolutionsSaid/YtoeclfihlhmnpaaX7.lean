-- thin
-- short
-- compact
import Derived.Test.YtoeclfihlhmnpaaXA
import Derived.Test.YtoeclfihlhmnpaaX0
import Derived.Test.YtoeclfihlhmnpaaX3
import Derived.Test.YtoeclfihlhmnpaaX4
import Derived.Test.YtoeclfihlhmnpaaX6
namespace Go.Proofs.Ytoeclfihlhmnpaa.X
open Go.RowKit Go.Proofs.Ytoeclfihlhmnpaa.XW Go.Proofs.YtoeclfihlhmnpaaW.PrintWords Go.Proofs.YtoeclfihlhmnpaaW.PrintLast Go.Proofs.YtoeclfihlhmnpaaW.PrintMore
attribute [local go_sem] max2_int min2_int max_two min_two max_three min_three max_four min_four   -- for this text's walks alone
set_option linter.unusedVariables false
set_option linter.unusedSimpArgs false

def spec_BandOfSolutions.f (k : Nat) (a0_0 : Int) (l0_1 : List (S_impl_Clue)) : Option ((List (S_impl_Peg)) × Bool) := (spec_pzGood.f k a0_0 l0_1).bind fun t222 => (if t222 = true then ((spec_pzAll.f k a0_0 l0_1).bind fun t223 => (if (t223.length : Int) = 0 then (some (([] : List (S_impl_Peg)), false)) else ((spec_bdBand.f k t223).bind fun t226 => (some (t226, true))))) else (some (([] : List (S_impl_Peg)), false)))
theorem spec_BandOfSolutions.mono : ∀ a0 a1 k, LeO (spec_BandOfSolutions.f k a0 a1) (spec_BandOfSolutions.f (k + 1) a0 a1) := by
 intro a0 a1 k
 unfold spec_BandOfSolutions.f
 repeat' first | (with_reducible exact spec_bdBand.mono _ _) | (with_reducible exact spec_pzAll.mono _ _ _) | (with_reducible exact spec_pzGood.mono _ _ _) | (with_reducible exact LeO.refl _) | (with_reducible exact LeO.none _) | (with_reducible refine LeO.ite ?_ ?_) | (with_reducible refine LeO.bind ?_ (fun _ => ?_)) | exact spec_bdBand.mono _ _ | exact spec_pzAll.mono _ _ _ | exact spec_pzGood.mono _ _ _ | exact LeO.none _ | refine LeO.ite ?_ ?_ | refine LeO.bind ?_ (fun _ => ?_)
set_option maxHeartbeats 8000000 in
set_option maxRecDepth 100000 in
theorem spec_BandOfSolutions.calls (k : Nat) (a0_0 : Int) (A0_1 : Option Addr) (c0_1 : Nat) (l0_1 : List (S_impl_Clue)) (r1 : List (S_impl_Peg)) (r2 : Bool) (w : World) (hr0_1 : Kd.C kd_impl_Clue w A0_1 l0_1.length l0_1) (hc0_1 : l0_1.length ≤ c0_1) (h : spec_BandOfSolutions.f k a0_0 l0_1 = some (r1, r2)) :
  Calls Try.prog 6 #[.agg #[.int .i64 a0_0, .slice A0_1 l0_1.length c0_1]] w fun e w' => ∃ v0_ : Value, e = .returned (.tuple #[v0_, .bool r2]) ∧ Kd.R kd_impl_Peg 41 w' w.heap.size (fun _ => True) v0_ r1 ∧ Below w.heap.size w w' := by
 have hu31 := Try.underlying31; have HR0_1 := aM hr0_1; have HC0_1 := aM hc0_1; clear hr0_1 hc0_1; have HB := aM (Below.refl w.heap.size w)
 unfold spec_BandOfSolutions.f at h; have H := h; clear h
 replace H := bS H; obtain ⟨t222, A2, H⟩ := H
 by_cases c3 : t222 = true
 ·subst c3; replace H := iT H; replace H := bS H; obtain ⟨t223, A4, H⟩ := H
  by_cases c5 : (t223.length : Int) = 0
  ·rw [if_pos c5] at H; have c5b0 : ((t223.length : Int) == 0) = true := beq_iff_eq.mpr c5; have c5b1 : ((t223.length : Int) != 0) = false := bne_eq_false_iff_eq.mpr c5; clear c5
   simp only [Option.some.injEq, Prod.mk.injEq] at H
   obtain ⟨rfl, rfl⟩ := H
   go_enter Try.func6, Try.ntmps6
   go_wp2_with (first | ((with_reducible refine gate_dst (N := 1) rfl ?_); refine bV 1 (cs := #[.int .i64 a0_0, .slice A0_1 l0_1.length c0_1]) (t := 31) rfl rfl (by first | (go_simp; done) | (go_simp; rfl)) ?_; intro gb221 hg w6 hbox hb; have BK221 := hbox; have GW221 := gZ HB hg; have GE221 := gZ HB hg; replace HB := tB HB hb; clear hb hbox hg; have hcz7_0 := vZ0 BK221; have hcz7_1 := vZ1 BK221; have hfz7_0 := kF BK221.out 0; have hfz7_1 := kF BK221.out 1) | ((with_reducible refine gC (f := 41) rfl ?_); refine goesL_ (some 6) rfl rfl Try.func41 kR rfl #[.agg #[.int .i64 a0_0, .slice A0_1 l0_1.length c0_1]] rfl sQ ?_; (with_reducible refine (spec_pzGood.calls k a0_0 _ _ l0_1 true _ ?side1 ?side2 A2.out).mono ?_); (case side1 => repeat (first | exact (Kd.C_below HR0_1.out HB.out) | (with_reducible refine cA ?_ _) | (with_reducible refine cN ?_ _) | (with_reducible refine cD ?_))); (case side2 => exact HC0_1.out); rintro e w8 ⟨rfl, hb⟩; refine ⟨_, rfl, ?_⟩; replace BK221 := bB BK221 hb; replace HB := tB HB hb; (try clear hb); (try clear hb2); (try clear hk); (try clear hi); have hcz9_0 := vZ0 BK221; have hcz9_1 := vZ1 BK221; have hfz9_0 := kF BK221.out 0; have hfz9_1 := kF BK221.out 1) | ((with_reducible refine gC (f := 42) rfl ?_); refine goesL_ (some 12) rfl rfl Try.func42 kR rfl #[.int .i64 a0_0, .slice A0_1 l0_1.length c0_1] rfl sQ ?_; (with_reducible refine (spec_pzAll.calls k a0_0 _ _ l0_1 t223 _ ?side1 ?side2 A4.out).mono ?_); (case side1 => repeat (first | exact (Kd.C_below HR0_1.out HB.out) | (with_reducible refine cA ?_ _) | (with_reducible refine cN ?_ _) | (with_reducible refine cD ?_))); (case side2 => exact HC0_1.out); rintro e w10 ⟨v224, rfl, ho0, hb⟩; refine ⟨_, rfl, ?_⟩; have HO225 := aM (Kd.R_lower ho0 (pZ bE)); replace BK221 := bB BK221 hb; replace HB := tB HB hb; (try clear hb); (try clear hb2); (try clear hk); (try clear hi); (try clear ho0); obtain ⟨Ao11, co11, eo11⟩ := Kd.R_slice HO225.out; subst eo11))
   go_ret2
   exact ⟨_, by first | rfl | (simp [errW_none, errW_some] <;> rfl) | (simp [*, errW_none, errW_some] <;> rfl), by first | exact Kd.R_nil _ _ _ _ _ | exact Kd.N_nil _ _ _ _ _ | exact Kd.V_nil _ _ _ _ _ | exact Kd.Q_nil _ _ _ _ _ | exact Kd.S_nil _ _ _ _ _, bE⟩
  ·rw [if_neg c5] at H; have c5b0 : ((t223.length : Int) == 0) = false := beq_eq_false_iff_ne.mpr c5; have c5b1 : ((t223.length : Int) != 0) = true := bne_iff_ne.mpr c5; have c5b2 : ¬ (t223 = []) := fun h_ => c5 (by rw [h_]; rfl)
   replace H := bS H; obtain ⟨t226, A12, H⟩ := H
   simp only [Option.some.injEq, Prod.mk.injEq] at H
   obtain ⟨rfl, rfl⟩ := H
   go_enter Try.func6, Try.ntmps6
   go_wp2_with (first | ((with_reducible refine gate_dst (N := 1) rfl ?_); refine bV 1 (cs := #[.int .i64 a0_0, .slice A0_1 l0_1.length c0_1]) (t := 31) rfl rfl (by first | (go_simp; done) | (go_simp; rfl)) ?_; intro gb221 hg w13 hbox hb; have BK221 := hbox; have GW221 := gZ HB hg; have GE221 := gZ HB hg; replace HB := tB HB hb; clear hb hbox hg; have hcz14_0 := vZ0 BK221; have hcz14_1 := vZ1 BK221; have hfz14_0 := kF BK221.out 0; have hfz14_1 := kF BK221.out 1) | ((with_reducible refine gC (f := 41) rfl ?_); refine goesL_ (some 6) rfl rfl Try.func41 kR rfl #[.agg #[.int .i64 a0_0, .slice A0_1 l0_1.length c0_1]] rfl sQ ?_; (with_reducible refine (spec_pzGood.calls k a0_0 _ _ l0_1 true _ ?side1 ?side2 A2.out).mono ?_); (case side1 => repeat (first | exact (Kd.C_below HR0_1.out HB.out) | (with_reducible refine cA ?_ _) | (with_reducible refine cN ?_ _) | (with_reducible refine cD ?_))); (case side2 => exact HC0_1.out); rintro e w15 ⟨rfl, hb⟩; refine ⟨_, rfl, ?_⟩; replace BK221 := bB BK221 hb; replace HB := tB HB hb; (try clear hb); (try clear hb2); (try clear hk); (try clear hi); have hcz16_0 := vZ0 BK221; have hcz16_1 := vZ1 BK221; have hfz16_0 := kF BK221.out 0; have hfz16_1 := kF BK221.out 1) | ((with_reducible refine gC (f := 42) rfl ?_); refine goesL_ (some 12) rfl rfl Try.func42 kR rfl #[.int .i64 a0_0, .slice A0_1 l0_1.length c0_1] rfl sQ ?_; (with_reducible refine (spec_pzAll.calls k a0_0 _ _ l0_1 t223 _ ?side1 ?side2 A4.out).mono ?_); (case side1 => repeat (first | exact (Kd.C_below HR0_1.out HB.out) | (with_reducible refine cA ?_ _) | (with_reducible refine cN ?_ _) | (with_reducible refine cD ?_))); (case side2 => exact HC0_1.out); rintro e w17 ⟨v224, rfl, ho0, hb⟩; refine ⟨_, rfl, ?_⟩; have HO225 := aM (Kd.R_lower ho0 (pZ bE)); replace BK221 := bB BK221 hb; replace HB := tB HB hb; (try clear hb); (try clear hb2); (try clear hk); (try clear hi); (try clear ho0); obtain ⟨Ao18, co18, eo18⟩ := Kd.R_slice HO225.out; subst eo18) | ((with_reducible refine gC (f := 43) rfl ?_); refine goesL_ (some 17) rfl rfl Try.func43 kR rfl #[.slice Ao18 t223.length co18] rfl sQ ?_; (with_reducible refine (spec_bdBand.calls k _ _ t223 t226 _ ?side1 ?side2 A12.out).mono ?_); (case side1 => repeat (first | exact (rR HO225.out).2.2 | (with_reducible refine cA ?_ _) | (with_reducible refine cN ?_ _) | (with_reducible refine cD ?_))); (case side2 => exact (rR HO225.out).2.1); rintro e w19 ⟨v227, rfl, ho0, hb⟩; refine ⟨_, rfl, ?_⟩; have HO228 := aM (Kd.R_lower (Kd.R_new' ho0 (Kd.R_lt (by (with_reducible repeat (first | apply rA | apply rN | apply rD)); exact HO225.out))) (pZ bE)); replace HO225 := aM (Kd.R_elder' (by (with_reducible repeat (first | apply rA | apply rN | apply rD)); exact HO225.out) (Kd.R_base ho0) hb); replace BK221 := bB BK221 hb; replace HB := tB HB hb; (try clear hb); (try clear hb2); (try clear hk); (try clear hi); (try clear ho0)))
   go_ret2
   exact ⟨_, by first | rfl | (simp [errW_none, errW_some] <;> rfl) | (simp [*, errW_none, errW_some] <;> rfl), by (with_reducible repeat (first | apply rA | apply rN | apply rD)); exact Kd.R_mono HO228.out (fun _ hk => trivial), bE⟩
 ·replace c3 := Bool.eq_false_iff.mpr c3; subst c3; replace H := iF H
  simp only [Option.some.injEq, Prod.mk.injEq] at H
  obtain ⟨rfl, rfl⟩ := H
  go_enter Try.func6, Try.ntmps6
  go_wp2_with (first | ((with_reducible refine gate_dst (N := 1) rfl ?_); refine bV 1 (cs := #[.int .i64 a0_0, .slice A0_1 l0_1.length c0_1]) (t := 31) rfl rfl (by first | (go_simp; done) | (go_simp; rfl)) ?_; intro gb221 hg w20 hbox hb; have BK221 := hbox; have GW221 := gZ HB hg; have GE221 := gZ HB hg; replace HB := tB HB hb; clear hb hbox hg; have hcz21_0 := vZ0 BK221; have hcz21_1 := vZ1 BK221; have hfz21_0 := kF BK221.out 0; have hfz21_1 := kF BK221.out 1) | ((with_reducible refine gC (f := 41) rfl ?_); refine goesL_ (some 6) rfl rfl Try.func41 kR rfl #[.agg #[.int .i64 a0_0, .slice A0_1 l0_1.length c0_1]] rfl sQ ?_; (with_reducible refine (spec_pzGood.calls k a0_0 _ _ l0_1 false _ ?side1 ?side2 A2.out).mono ?_); (case side1 => repeat (first | exact (Kd.C_below HR0_1.out HB.out) | (with_reducible refine cA ?_ _) | (with_reducible refine cN ?_ _) | (with_reducible refine cD ?_))); (case side2 => exact HC0_1.out); rintro e w22 ⟨rfl, hb⟩; refine ⟨_, rfl, ?_⟩; replace BK221 := bB BK221 hb; replace HB := tB HB hb; (try clear hb); (try clear hb2); (try clear hk); (try clear hi)))
  go_ret2
  exact ⟨_, by first | rfl | (simp [errW_none, errW_some] <;> rfl) | (simp [*, errW_none, errW_some] <;> rfl), by first | exact Kd.R_nil _ _ _ _ _ | exact Kd.N_nil _ _ _ _ _ | exact Kd.V_nil _ _ _ _ _ | exact Kd.Q_nil _ _ _ _ _ | exact Kd.S_nil _ _ _ _ _, bE⟩

def laws_toClue.f (a0_0 : Int) (a0_1 : Int) (a0_2 : Int) (a0_3 : Int) : Option (Int × Int × Int × Int) := some (a0_0, a0_1, a0_2, a0_3)
set_option maxHeartbeats 8000000 in
set_option maxRecDepth 100000 in
theorem laws_toClue.calls (a0_0 : Int) (a0_1 : Int) (a0_2 : Int) (a0_3 : Int) (r1 : Int) (r2 : Int) (r3 : Int) (r4 : Int) (w : World) (h : laws_toClue.f a0_0 a0_1 a0_2 a0_3 = some (r1, r2, r3, r4)) :
  Calls Try.prog 81 #[.agg #[.int .i64 a0_0, .int .i64 a0_1, .int .i64 a0_2, .int .i64 a0_3]] w fun e w' => e = .returned (.agg #[.int .i64 r1, .int .i64 r2, .int .i64 r3, .int .i64 r4]) ∧ Below w.heap.size w w' := by
 have hu103 := Try.underlying103; have hu48 := Try.underlying48; have HB := aM (Below.refl w.heap.size w)
 unfold laws_toClue.f at h; have H := h; clear h
 simp only [Option.some.injEq, Prod.mk.injEq] at H
 obtain ⟨rfl, rfl, rfl, rfl⟩ := H
 go_enter Try.func81, Try.ntmps81
 go_wp2_with (first | ((with_reducible refine gate_dst (N := 1) rfl ?_); refine bV 1 (cs := #[.int .i64 a0_0, .int .i64 a0_1, .int .i64 a0_2, .int .i64 a0_3]) (t := 103) rfl rfl (by first | (go_simp; done) | (go_simp; rfl)) ?_; intro gb229 hg w2 hbox hb; have BK229 := hbox; have GW229 := gZ HB hg; have GE229 := gZ HB hg; replace HB := tB HB hb; clear hb hbox hg) | ((with_reducible refine gate_dst (N := 2) rfl ?_); refine bV 2 (cs := #[.int .i64 0, .int .i64 0, .int .i64 0, .int .i64 0]) (t := 48) rfl rfl (by first | (go_simp; done) | (go_simp; rfl)) ?_; intro gb230 hg w3 hbox hb; have BK230 := hbox; have GW230 := gZ HB hg; have GE230 := gZ HB hg; have NB229_230 := nG BK229 hg; have NB230_229 := nH BK229 hg; replace BK229 := bB BK229 hb; replace HB := tB HB hb; clear hb hbox hg) | ((with_reducible refine gate_dst (N := 3) rfl ?_); refine bV 3 (cs := #[.int .i64 0, .int .i64 0, .int .i64 0, .int .i64 0]) (t := 48) rfl rfl (by first | (go_simp; done) | (go_simp; rfl)) ?_; intro gb231 hg w4 hbox hb; have BK231 := hbox; have GW231 := gZ HB hg; have GE231 := gZ HB hg; have NB229_231 := nG BK229 hg; have NB231_229 := nH BK229 hg; have NB230_231 := nG BK230 hg; have NB231_230 := nH BK230 hg; replace BK229 := bB BK229 hb; replace BK230 := bB BK230 hb; replace HB := tB HB hb; clear hb hbox hg; have hnb5 := NB229_230.out; have hnc5 := NB230_229.out; have hnb6 := NB229_231.out; have hnc6 := NB231_229.out; have hcz7_0 := vZ0 BK229; have hcz7_1 := vZ1 BK229; have hcz7_2 := vZ2 BK229; have hcz7_3 := vZ3 BK229; have hfz7_0 := kF BK229.out 0; have hfz7_1 := kF BK229.out 1; have hfz7_2 := kF BK229.out 2; have hfz7_3 := kF BK229.out 3; have hnb8 := NB231_230.out; have hnc8 := NB230_231.out; have hcz9_0 := vZ0 BK231; have hcz9_1 := vZ1 BK231; have hcz9_2 := vZ2 BK231; have hcz9_3 := vZ3 BK231; have hfz9_0 := kF BK231.out 0; have hfz9_1 := kF BK231.out 1; have hfz9_2 := kF BK231.out 2; have hfz9_3 := kF BK231.out 3; have hcz10_0 := vZ0 BK230; have hcz10_1 := vZ1 BK230; have hcz10_2 := vZ2 BK230; have hcz10_3 := vZ3 BK230; have hfz10_0 := kF BK230.out 0; have hfz10_1 := kF BK230.out 1; have hfz10_2 := kF BK230.out 2; have hfz10_3 := kF BK230.out 3))
 refine bodyPost_ret (results_cell_row rfl _ _ gb230 48 #[.int .i64 a0_0, .int .i64 a0_1, .int .i64 a0_2, .int .i64 a0_3] (0, 0) _ rfl (fQ BK230) Try.underlying48 rfl kR) rfl ?_
 exact ⟨wQ, bE⟩

def laws_toClueS.l0 : Nat → List (S_laws_Clue) → List (S_impl_Clue) → Int → Option ((List (S_impl_Clue)))
 | 0, _, _, _ => none
 | k + 1, x0, x3, x4 => if x4 < (x0.length : Int) then (if 0 ≤ x4 then ((laws_toClue.f ((rd_laws_Clue x0 x4).f0) ((rd_laws_Clue x0 x4).f1) ((rd_laws_Clue x0 x4).f2) ((rd_laws_Clue x0 x4).f3)).bind fun bt236 => (if x4 < (x3.length : Int) then (laws_toClueS.l0 k x0 (x3.set (x4 : Int).toNat (⟨bt236.1, bt236.2.1, bt236.2.2.1, bt236.2.2.2⟩ : S_impl_Clue)) (wrap64 (x4 + 1))) else (none))) else (none)) else (some x3)
def laws_toClueS.f (k : Nat) (l0 : List (S_laws_Clue)) : Option ((List (S_impl_Clue))) := if 0 ≤ (l0.length : Int) then (if ((l0.length : Int) : Int).toNat ≤ 8796093022208 then (laws_toClueS.l0 k l0 (List.replicate ((l0.length : Int) : Int).toNat z_impl_Clue) 0) else (none)) else (none)
theorem laws_toClueS.mono_l : ∀ k, (∀ y0 y1 y2, LeO (laws_toClueS.l0 k y0 y1 y2) (laws_toClueS.l0 (k + 1) y0 y1 y2))
 | 0 => fun _ _ _ r h => by simp [laws_toClueS.l0] at h
 | k + 1 => by
  have ih0 := laws_toClueS.mono_l k
  ·intro y0 y1 y2
   unfold laws_toClueS.l0
   repeat' first
   | (with_reducible exact ih0 _ _ _)
   | (with_reducible exact LeO.refl _)
   | (with_reducible exact LeO.none _)
   | (with_reducible refine LeO.ite ?_ ?_)
   | (with_reducible refine LeO.bind ?_ (fun _ => ?_))
   | exact ih0 _ _ _
   | exact LeO.none _
   | refine LeO.ite ?_ ?_
   | refine LeO.bind ?_ (fun _ => ?_)
theorem laws_toClueS.mono : ∀ a0 k, LeO (laws_toClueS.f k a0) (laws_toClueS.f (k + 1) a0) := by
 intro a0 k
 have ih0 := laws_toClueS.mono_l k
 unfold laws_toClueS.f
 repeat' first | (with_reducible exact ih0 _ _ _) | (with_reducible exact LeO.refl _) | (with_reducible exact LeO.none _) | (with_reducible refine LeO.ite ?_ ?_) | (with_reducible refine LeO.bind ?_ (fun _ => ?_)) | exact ih0 _ _ _ | exact LeO.none _ | refine LeO.ite ?_ ?_ | refine LeO.bind ?_ (fun _ => ?_)
set_option maxHeartbeats 8000000 in
set_option maxRecDepth 100000 in
theorem laws_toClueS.calls (k : Nat) (A0 : Option Addr) (c0 : Nat) (l0 : List (S_laws_Clue)) (r : List (S_impl_Clue)) (w : World) (hr0 : Kd.C kd_laws_Clue w A0 l0.length l0) (hc0 : l0.length ≤ c0) (h : laws_toClueS.f k l0 = some r) :
  Calls Try.prog 44 #[.slice A0 l0.length c0] w fun e w' => ∃ v0_ : Value, e = .returned (v0_) ∧ Kd.R kd_impl_Clue 48 w' w.heap.size (fun _ => True) v0_ r ∧ Below w.heap.size w w' := by
 have hu103 := Try.underlying103; have hu48 := Try.underlying48; have HR0 := aM hr0; have HC0 := aM hc0; clear hr0 hc0; have HB := aM (Below.refl w.heap.size w)
 unfold laws_toClueS.f at h; have H := h; clear h
 replace H := iN H; obtain ⟨c2, H⟩ := H; have c2b0 := eq_true c2; have c2b1 := dE c2; clear c2; replace H := iN H; obtain ⟨c3, H⟩ := H; have c3b0 := eq_true c3; have c3b1 := dE c3; clear c3; obtain ⟨y232, hy232⟩ : ∃ y_ : List (S_impl_Clue), y_ = (List.replicate ((l0.length : Int) : Int).toNat z_impl_Clue) := ⟨_, rfl⟩; rw [← hy232] at H; have Ny232 := aM hy232; clear hy232; have H' := aM H; clear H
 go_enter Try.func44, Try.ntmps44
 go_wp2_with (first | ((with_reducible refine gate_dst (N := 7) rfl ?_); refine Kd.R_make kd_impl_Clue _ 48 rfl (N := 7) rfl 29 _ _ rfl (l0.length : Int) rfl rfl Try.underlying29 (.agg #[(.int .i64 0), (.int .i64 0), (.int .i64 0), (.int .i64 0)]) 32 info48 rfl (by decide) (by omega) z_impl_Clue (ok := fun _ => True) (okp := fun _ => True) (kd_impl_Clue_mkM _ _ _ z_impl_Clue ) (fun _ hk => hk) trivial (dT aQ) (Nat.le_trans (Nat.mul_le_mul_right _ (dT aQ : (l0.length : Int).toNat ≤ 8796093022208)) (by omega)) (Below.refl _ _) (Nat.le_refl _) ?_; intro v233 w4 ho5 hb hg_ hnew_; clear hg_ hnew_; (first | rw [← Ny232.out] at ho5 | (simp only [Int.reduceToNat] at ho5; rw [← Ny232.out] at ho5)); have HO234 := aM (Kd.R_lower ho5 (pZ bQ)); replace HB := tB HB hb; clear hb ho5))
 go_loopg [4] k (fun kq v4 w' => ∃ (x3_1 : List (S_impl_Clue)) (x4_1 : Int), v4 = .int .i64 x4_1 ∧ Aside0 (laws_toClueS.l0 kq l0 x3_1 x4_1 = some r) ∧ Aside0 (kq ≤ k) ∧ Aside0 (Kd.R kd_impl_Clue 48 w' w.heap.size (fun _ => True) v233 x3_1) ∧ Aside0 (Below w.heap.size w w'))
 case atStart => exact ⟨(y232), (0), eQ, H', ⟨Nat.le_refl _⟩, ⟨by (with_reducible repeat (first | apply rA | apply rN | apply rD)); exact HO234.out⟩, ⟨bQ⟩⟩
 case round =>
  clear H'; (try clear c2); (try clear c2b0); (try clear c2b1); (try clear c3); (try clear c3b0); (try clear c3b1); obtain ⟨x3_1, x4_1, rfl, HA, HK1, HO_3, HB⟩ := hrel
  cases gk with
  | zero => exact absurd HA.out (by simp [laws_toClueS.l0])
  | succ k1 =>
   have H := HA.out; clear HA
   simp only [laws_toClueS.l0] at H
   by_cases c6 : x4_1 < (l0.length : Int)
   ·rw [if_pos c6] at H; have c6b0 := dE c6; clear c6; replace H := iD H; obtain ⟨c7b0, H⟩ := H; replace H := bS H; obtain ⟨⟨t236, t237, t238, t239⟩, A8, H⟩ := H; replace H := iD H; obtain ⟨c9b0, H⟩ := H; obtain ⟨y240, hy240⟩ : ∃ y_ : List (S_impl_Clue), y_ = (x3_1.set (x4_1 : Int).toNat (⟨t236, t237, t238, t239⟩ : S_impl_Clue)) := ⟨_, rfl⟩; rw [← hy240] at H; have Ny240 := aM hy240; clear hy240; have H' := aM H; clear H; have p235 : 0 ≤ (x4_1 : Int) := dT aQ; have q235 : x4_1 < (l0.length : Int) := dT aQ; obtain ⟨ad235, e235, hx235_0, hx235_1, hx235_2, hx235_3⟩ := at_laws_Clue HR0.out x4_1 p235 q235
    cases e235
    replace hx235_0 := hC HB hx235_0; replace hx235_1 := hC HB hx235_1; replace hx235_2 := hC HB hx235_2; replace hx235_3 := hC HB hx235_3; replace p235 := eq_true p235; replace q235 := eq_true q235
    go_wp2_with (first | ((with_reducible refine gC (f := 81) rfl ?_); refine goesL_ (some 20) rfl rfl Try.func81 kR rfl #[.agg #[.int .i64 ((rd_laws_Clue l0 x4_1).f0), .int .i64 ((rd_laws_Clue l0 x4_1).f1), .int .i64 ((rd_laws_Clue l0 x4_1).f2), .int .i64 ((rd_laws_Clue l0 x4_1).f3)]] rfl sQ ?_; (with_reducible refine (laws_toClue.calls ((rd_laws_Clue l0 x4_1).f0) ((rd_laws_Clue l0 x4_1).f1) ((rd_laws_Clue l0 x4_1).f2) ((rd_laws_Clue l0 x4_1).f3) t236 t237 t238 t239 _ A8.out).mono ?_); rintro e w11 ⟨rfl, hb⟩; refine ⟨_, rfl, ?_⟩; replace HO_3 := aM (Kd.R_below (by (with_reducible repeat (first | apply rA | apply rN | apply rD)); exact HO_3.out) hb); replace HB := tB HB hb; (try clear hb); (try clear hb2); (try clear hk); (try clear hi); have p10 : 0 ≤ (x4_1 : Int) := dT aQ; have q10 : (x4_1 : Int) < ((x3_1.length : Int) : Int) := dT aQ; obtain ⟨go10, co10, eo10, gb10, gl10, cl10, HG10⟩ := Kd.R_form HO_3.out (by omega); (first | cases eo10 | (injection eo10 with ea_ en_ ec_; (first | subst ea_ | (injection ea_ with ea_; subst ea_)); subst ec_; clear en_)); have GB10 := aM gb10; have GG10 := aM HG10; clear gb10 gl10 HG10; obtain ⟨ce10, hcl10, hM10, hcc10, hfr10⟩ := Kd.R_elem HO_3.out z_impl_Clue (x4_1 : Int) p10 q10; obtain rfl := kd_impl_Clue_openM hM10; have hx10_0 : w11.cell? ⟨go10, (x4_1 : Int).toNat * 4, none⟩ = some (.int .i64 ((rd_impl_Clue x3_1 x4_1).f0)) := hcc10 0 _ rfl; have hx10_1 : w11.cell? ⟨go10, (x4_1 : Int).toNat * 4 + 1, none⟩ = some (.int .i64 ((rd_impl_Clue x3_1 x4_1).f1)) := hcc10 1 _ rfl; have hx10_2 : w11.cell? ⟨go10, (x4_1 : Int).toNat * 4 + 2, none⟩ = some (.int .i64 ((rd_impl_Clue x3_1 x4_1).f2)) := hcc10 2 _ rfl; have hx10_3 : w11.cell? ⟨go10, (x4_1 : Int).toNat * 4 + 3, none⟩ = some (.int .i64 ((rd_impl_Clue x3_1 x4_1).f3)) := hcc10 3 _ rfl; have hf10_0 : w11.frozen? ⟨go10, (x4_1 : Int).toNat * 4, none⟩ = false := hfr10 0; have hf10_1 : w11.frozen? ⟨go10, (x4_1 : Int).toNat * 4 + 1, none⟩ = false := hfr10 1; have hf10_2 : w11.frozen? ⟨go10, (x4_1 : Int).toNat * 4 + 2, none⟩ = false := hfr10 2; have hf10_3 : w11.frozen? ⟨go10, (x4_1 : Int).toNat * 4 + 3, none⟩ = false := hfr10 3; clear hcl10 hcc10 hfr10 hM10; replace p10 := eq_true p10; replace q10 := eq_true q10; have HX12 := aM (show Kd.R kd_impl_Clue 48 w11 w.heap.size (fun _ => True) (.slice (some ⟨go10, 0, none⟩) x3_1.length co10) x3_1 from (by (with_reducible repeat (first | apply rA | apply rN | apply rD)); exact HO_3.out)); obtain ⟨ce12, hcl12, hM12, hcc12, hfr12⟩ := Kd.R_elem HX12.out z_impl_Clue (x4_1 : Int) (dT aQ) (by have h_ : (x4_1 : Int) < ((x3_1.length : Int) : Int) := dT aQ; first | exact h_ | (have e_ := (rR HO_3.out).1; omega) | simpa using h_); obtain rfl := kd_impl_Clue_openM hM12; have HP12 := Kd.R_seg HX12.out (x4_1 : Int) (dT aQ) (by have h_ : (x4_1 : Int) < ((x3_1.length : Int) : Int) := dT aQ; first | exact h_ | (have e_ := (rR HO_3.out).1; omega) | simpa using h_) (seg := [.int .i64 t236, .int .i64 t237, .int .i64 t238, .int .i64 t239]) (j := 0) hcl12 hcc12 (show 4 ≤ 4 from by decide) (x' := (⟨t236, t237, t238, t239⟩ : S_impl_Clue)) (kd_impl_Clue_mkM _ _ _ (⟨t236, t237, t238, t239⟩ : S_impl_Clue) ) (fun _ hk => hk); have hx12_0 := hcc12 0 _ rfl; (try simp only [show (kd_impl_Clue).sz = 4 from rfl, Nat.mul_one, Nat.add_zero] at hx12_0); have hf12_0 := hfr12 0; (try simp only [show (kd_impl_Clue).sz = 4 from rfl, Nat.mul_one, Nat.add_zero] at hf12_0); have hx12_1 := hcc12 1 _ rfl; (try simp only [show (kd_impl_Clue).sz = 4 from rfl, Nat.mul_one, Nat.add_zero] at hx12_1); have hf12_1 := hfr12 1; (try simp only [show (kd_impl_Clue).sz = 4 from rfl, Nat.mul_one, Nat.add_zero] at hf12_1); have hx12_2 := hcc12 2 _ rfl; (try simp only [show (kd_impl_Clue).sz = 4 from rfl, Nat.mul_one, Nat.add_zero] at hx12_2); have hf12_2 := hfr12 2; (try simp only [show (kd_impl_Clue).sz = 4 from rfl, Nat.mul_one, Nat.add_zero] at hf12_2); have hx12_3 := hcc12 3 _ rfl; (try simp only [show (kd_impl_Clue).sz = 4 from rfl, Nat.mul_one, Nat.add_zero] at hx12_3); have hf12_3 := hfr12 3; (try simp only [show (kd_impl_Clue).sz = 4 from rfl, Nat.mul_one, Nat.add_zero] at hf12_3); clear hcl12 hcc12 hfr12 hM12) | ((with_reducible refine gate_store (t := 48) (p := 21) rfl ?_); refine store_event (t := 48) (p := 21) (v := ?vo_w13) (w1 := ((((w11.setCell ⟨go10, (x4_1 : Int).toNat * 4, none⟩ (.int .i64 t236)).setCell ⟨go10, (x4_1 : Int).toNat * 4 + 1, none⟩ (.int .i64 t237)).setCell ⟨go10, (x4_1 : Int).toNat * 4 + 2, none⟩ (.int .i64 t238)).setCell ⟨go10, (x4_1 : Int).toNat * 4 + 3, none⟩ (.int .i64 t239))) ?hg ?ho ?hn ?hr ?_; (case ho => rfl); (case hg => rfl); (case hn => rfl); (case hr => first | (go_simp; done) | (go_simp; rfl)); intro w13 hw; have hg : w11.grownBy w13 (some go10) := (by rw [hw]; exact HP12.2); have hp_ : Kd.R kd_impl_Clue 48 w13 w.heap.size (fun _ => True) (.slice (some ⟨go10, 0, none⟩) x3_1.length co10) y240 := (by rw [hw, Ny240.out]; exact HP12.1); clear HP12; replace HO_3 := aM (hp_); replace HB := aM ((by rw [hw]; exact pS (pS (pS (pS (HB.out) GB10.out) GB10.out) GB10.out) GB10.out : Below w.heap.size w w13)); clear hg hw hp_))
    go_roundg k1
    case measure => have := HK1.out; omega
    case rel => exact ⟨(y240), (wrap64 (x4_1 + 1)), eQ, H', ⟨by have := HK1.out; omega⟩, ⟨by (with_reducible repeat (first | apply rA | apply rN | apply rD)); exact HO_3.out⟩, ⟨bQ⟩⟩
   ·rw [if_neg c6] at H; have c6b0 := decide_eq_false c6; clear c6; obtain rfl := Option.some.inj H; go_wp2
    go_ret
    exact ⟨_, by first | rfl | (simp [errW_none, errW_some] <;> rfl) | (simp [*, errW_none, errW_some] <;> rfl), by (with_reducible repeat (first | apply rA | apply rN | apply rD)); exact HO_3.out, bQ⟩
def laws_toPuzzle.f (k : Nat) (a0_0 : Int) (l0_1 : List (S_laws_Clue)) : Option (Int × (List (S_impl_Clue))) := (laws_toClueS.f k l0_1).bind fun t244 => (some (a0_0, t244))
theorem laws_toPuzzle.mono : ∀ a0 a1 k, LeO (laws_toPuzzle.f k a0 a1) (laws_toPuzzle.f (k + 1) a0 a1) := by
 intro a0 a1 k
 unfold laws_toPuzzle.f
 repeat' first | (with_reducible exact laws_toClueS.mono _ _) | (with_reducible exact LeO.refl _) | (with_reducible exact LeO.none _) | (with_reducible refine LeO.ite ?_ ?_) | (with_reducible refine LeO.bind ?_ (fun _ => ?_)) | exact laws_toClueS.mono _ _ | exact LeO.none _ | refine LeO.ite ?_ ?_ | refine LeO.bind ?_ (fun _ => ?_)
set_option maxHeartbeats 8000000 in
set_option maxRecDepth 100000 in
theorem laws_toPuzzle.calls (k : Nat) (a0_0 : Int) (A0_1 : Option Addr) (c0_1 : Nat) (l0_1 : List (S_laws_Clue)) (r1 : Int) (r2 : List (S_impl_Clue)) (w : World) (hr0_1 : Kd.C kd_laws_Clue w A0_1 l0_1.length l0_1) (hc0_1 : l0_1.length ≤ c0_1) (h : laws_toPuzzle.f k a0_0 l0_1 = some (r1, r2)) :
  Calls Try.prog 7 #[.agg #[.int .i64 a0_0, .slice A0_1 l0_1.length c0_1]] w fun e w' => ∃ v1_ : Value, e = .returned (.agg #[.int .i64 r1, v1_]) ∧ Kd.R kd_impl_Clue 48 w' w.heap.size (fun _ => True) v1_ r2 ∧ Below w.heap.size w w' := by
 have hu24 := Try.underlying24; have hu31 := Try.underlying31; have HR0_1 := aM hr0_1; have HC0_1 := aM hc0_1; clear hr0_1 hc0_1; have HB := aM (Below.refl w.heap.size w)
 unfold laws_toPuzzle.f at h; have H := h; clear h
 replace H := bS H; obtain ⟨t244, A2, H⟩ := H
 simp only [Option.some.injEq, Prod.mk.injEq] at H
 obtain ⟨rfl, rfl⟩ := H
 go_enter Try.func7, Try.ntmps7
 go_wp2_with (first | ((with_reducible refine gate_dst (N := 1) rfl ?_); refine bV 1 (cs := #[.int .i64 a0_0, .slice A0_1 l0_1.length c0_1]) (t := 24) rfl rfl (by first | (go_simp; done) | (go_simp; rfl)) ?_; intro gb241 hg w3 hbox hb; have BK241 := hbox; have GW241 := gZ HB hg; have GE241 := gZ HB hg; replace HB := tB HB hb; clear hb hbox hg) | ((with_reducible refine gate_dst (N := 2) rfl ?_); refine bV 2 (cs := #[.int .i64 0, .slice none 0 0]) (t := 31) rfl rfl (by first | (go_simp; done) | (go_simp; rfl)) ?_; intro gb242 hg w4 hbox hb; have BK242 := hbox; have GW242 := gZ HB hg; have GE242 := gZ HB hg; have NB241_242 := nG BK241 hg; have NB242_241 := nH BK241 hg; replace BK241 := bB BK241 hb; replace HB := tB HB hb; clear hb hbox hg) | ((with_reducible refine gate_dst (N := 3) rfl ?_); refine bV 3 (cs := #[.int .i64 0, .slice none 0 0]) (t := 31) rfl rfl (by first | (go_simp; done) | (go_simp; rfl)) ?_; intro gb243 hg w5 hbox hb; have BK243 := hbox; have GW243 := gZ HB hg; have GE243 := gZ HB hg; have NB241_243 := nG BK241 hg; have NB243_241 := nH BK241 hg; have NB242_243 := nG BK242 hg; have NB243_242 := nH BK242 hg; replace BK241 := bB BK241 hb; replace BK242 := bB BK242 hb; replace HB := tB HB hb; clear hb hbox hg; have hnb6 := NB241_242.out; have hnc6 := NB242_241.out; have hnb7 := NB241_243.out; have hnc7 := NB243_241.out; have hcz8_0 := vZ0 BK241; have hcz8_1 := vZ1 BK241; have hfz8_0 := kF BK241.out 0; have hfz8_1 := kF BK241.out 1; have hnb9 := NB243_242.out; have hnc9 := NB242_243.out; have hcz10_0 := vZ0 BK243; have hcz10_1 := vZ1 BK243; have hfz10_0 := kF BK243.out 0; have hfz10_1 := kF BK243.out 1) | ((with_reducible refine gC (f := 44) rfl ?_); refine goesL_ (some 9) rfl rfl Try.func44 kR rfl #[.slice A0_1 l0_1.length c0_1] rfl sQ ?_; (with_reducible refine (laws_toClueS.calls k _ _ l0_1 t244 _ ?side1 ?side2 A2.out).mono ?_); (case side1 => exact Kd.C_below HR0_1.out bE); (case side2 => exact HC0_1.out); rintro e w11 ⟨v245, rfl, ho0, hb⟩; refine ⟨_, rfl, ?_⟩; have HO246 := aM (Kd.R_lower ho0 (pZ bE)); replace BK241 := aM (blk_below (g := gb241) (o := .cells #[.int .i64 a0_0, .slice A0_1 l0_1.length c0_1] 24 (0, 0)) (fQ BK241) hb); replace BK242 := aM (blk_below (g := gb242) (o := .cells #[.int .i64 0, .slice none 0 0] 31 (0, 0)) (fQ BK242) hb); replace BK243 := aM (blk_below (g := gb243) (o := .cells #[.int .i64 a0_0, .slice none 0 0] 31 (0, 0)) (fQ BK243) hb); replace HB := tB HB hb; (try clear hb); (try clear hb2); (try clear hk); (try clear hi); (try clear ho0); obtain ⟨Ao12, co12, eo12⟩ := Kd.R_slice HO246.out; subst eo12; have hcz13_0 := vZ0 BK243; have hcz13_1 := vZ1 BK243; have hfz13_0 := kF BK243.out 0; have hfz13_1 := kF BK243.out 1; have hcz14_0 := vZ0 BK242; have hcz14_1 := vZ1 BK242; have hfz14_0 := kF BK242.out 0; have hfz14_1 := kF BK242.out 1))
 refine bodyPost_ret (results_cell_row rfl _ _ gb242 31 #[.int .i64 a0_0, .slice Ao12 t244.length co12] (0, 0) _ rfl (fQ BK242) Try.underlying31 rfl kR) rfl ?_
 exact ⟨_, by first | rfl | (simp [errW_none, errW_some] <;> rfl) | (simp [*, errW_none, errW_some] <;> rfl), by (with_reducible repeat (first | apply rA | apply rN | apply rD)); exact Kd.R_mono (Kd.R_far (p := ⟨gb242, 1, none⟩) (Kd.R_far (p := ⟨gb242, 0, none⟩) (Kd.R_far (p := ⟨gb243, 1, none⟩) (Kd.R_types (Kd.R_types HO246.out BK243.out (by decide)) BK242.out (by decide)) (fun _ hk => hk.1.2) (.slice Ao12 t244.length co12)) (fun _ hk => hk.2) (.int .i64 a0_0)) (fun _ hk => hk.2) (.slice Ao12 t244.length co12)) (fun _ hk => trivial), bE⟩

def impl_within.f (a0 : Int) (a1 : Int) (a2 : Int) : Option (Bool) := if a0 ≥ a1 then (some (decide (a0 ≤ a2))) else (some false)
set_option maxHeartbeats 8000000 in
set_option maxRecDepth 100000 in
theorem impl_within.calls (a0 : Int) (a1 : Int) (a2 : Int) (r : Bool) (w : World) (h : impl_within.f a0 a1 a2 = some r) :
  Calls Try.prog 54 #[.int .i64 a0, .int .i64 a1, .int .i64 a2] w fun e w' => e = .returned (.bool r) ∧ Drawn0 w w' := by
 unfold impl_within.f at h; have H := h; clear h
 by_cases c4 : a0 ≥ a1
 ·rw [if_pos c4] at H; have c4b0 := dE c4; clear c4; obtain rfl := Option.some.inj H
  go_enter Try.func54, Try.ntmps54
  go_wp2
  go_ret
  exact ⟨eQ, dQ⟩
 ·rw [if_neg c4] at H; have c4b0 := decide_eq_false c4; clear c4; obtain rfl := Option.some.inj H
  go_enter Try.func54, Try.ntmps54
  go_wp2
  go_ret
  exact ⟨eQ, dQ⟩

def impl_isSide.f (a0 : Int) : Option (Bool) := (impl_within.f a0 1 12).bind fun t247 => (some t247)
set_option maxHeartbeats 8000000 in
set_option maxRecDepth 100000 in
theorem impl_isSide.calls (a0 : Int) (r : Bool) (w : World) (h : impl_isSide.f a0 = some r) :
  Calls Try.prog 62 #[.int .i64 a0] w fun e w' => e = .returned (.bool r) ∧ Drawn0 w w' := by
 unfold impl_isSide.f at h; have H := h; clear h
 replace H := bS H; obtain ⟨t247, A2, H⟩ := H; obtain rfl := Option.some.inj H
 go_enter Try.func62, Try.ntmps62
 go_wp2_with (first | ((with_reducible refine gC (f := 54) rfl ?_); refine goesL_ (some 4) rfl rfl Try.func54 kR rfl #[.int .i64 a0, .int .i64 1, .int .i64 12] rfl sQ ?_; (with_reducible refine (impl_within.calls a0 1 12 t247 _ A2.out).mono ?_); rintro e w' ⟨rfl, ⟨nd, rfl⟩⟩; refine ⟨_, rfl, ?_⟩))
 go_ret
 exact ⟨eQ, dQ⟩

-- NOT PRINTED: function 95 (slices_IndexFunc_impl_Clue)

-- NOT PRINTED: function 63 (slices_ContainsFunc_impl_Clue)

end Go.Proofs.Ytoeclfihlhmnpaa.X
