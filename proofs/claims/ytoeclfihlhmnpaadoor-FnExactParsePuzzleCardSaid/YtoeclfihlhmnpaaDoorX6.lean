-- thin
-- short
-- compact
import Derived.Test.YtoeclfihlhmnpaaDoorXA
import Derived.Test.YtoeclfihlhmnpaaDoorX0
import Derived.Test.YtoeclfihlhmnpaaDoorX5
import Derived.Test.YtoeclfihlhmnpaaDoorXW5
import Derived.Test.YtoeclfihlhmnpaaDoorXL
namespace Go.Proofs.YtoeclfihlhmnpaaDoor.X
open Go.RowKit Go.Proofs.YtoeclfihlhmnpaaDoor.XW Go.Proofs.YtoeclfihlhmnpaaDoorW.PrintWords Go.Proofs.YtoeclfihlhmnpaaDoorW.PrintLast Go.Proofs.YtoeclfihlhmnpaaDoorW.PrintMore
attribute [local go_sem] max2_int min2_int max_two min_two max_three min_three max_four min_four   -- for this text's walks alone
set_option linter.unusedVariables false
set_option linter.unusedSimpArgs false

def spec_ParsePuzzle.f (k : Nat) (a0 : ByteArray) : Option (Int × (List (S_impl_Clue)) × Bool) := (spec_pzParse.f k a0).bind fun bt173 => (if bt173.2.2 = true then (some (bt173.1, bt173.2.1, true)) else (some (0, ([] : List (S_impl_Clue)), false)))
theorem spec_ParsePuzzle.mono : ∀ a0 k, LeO (spec_ParsePuzzle.f k a0) (spec_ParsePuzzle.f (k + 1) a0) := by
 intro a0 k
 unfold spec_ParsePuzzle.f
 repeat' first | (with_reducible exact spec_pzParse.mono _ _) | (with_reducible exact LeO.refl _) | (with_reducible exact LeO.none _) | (with_reducible refine LeO.ite ?_ ?_) | (with_reducible refine LeO.bind ?_ (fun _ => ?_)) | exact spec_pzParse.mono _ _ | exact LeO.none _ | refine LeO.ite ?_ ?_ | refine LeO.bind ?_ (fun _ => ?_)
set_option maxHeartbeats 8000000 in
set_option maxRecDepth 100000 in
theorem spec_ParsePuzzle.calls (k : Nat) (a0 : ByteArray) (r1 : Int) (r2 : List (S_impl_Clue)) (r3 : Bool) (w : World) (h : spec_ParsePuzzle.f k a0 = some (r1, r2, r3)) :
  Calls Tryd.prog 5 #[.string a0] w fun e w' => ∃ v1_ : Value, e = .returned (.tuple #[.agg #[.int .i64 r1, v1_], .bool r3]) ∧ Kd.R kd_impl_Clue 48 w' w.heap.size (fun _ => True) v1_ r2 ∧ Below w.heap.size w w' := by
 have hu24 := Tryd.underlying24; have HB := aM (Below.refl w.heap.size w)
 unfold spec_ParsePuzzle.f at h; have H := h; clear h
 replace H := bS H; obtain ⟨⟨t173, t174, t177⟩, A2, H⟩ := H
 by_cases c3 : t177 = true
 ·subst c3; replace H := iT H
  simp only [Option.some.injEq, Prod.mk.injEq] at H
  obtain ⟨rfl, rfl, rfl⟩ := H
  go_enter Tryd.func5, Tryd.ntmps5
  go_wp2_with (first | ((with_reducible refine gate_dst (N := 2) rfl ?_); refine bV 2 (cs := #[.int .i64 0, .slice none 0 0]) (t := 24) rfl rfl (by first | (go_simp; done) | (go_simp; rfl)) ?_; intro gb172 hg w4 hbox hb; have BK172 := hbox; have GW172 := gZ HB hg; have GE172 := gZ HB hg; replace HB := tB HB hb; clear hb hbox hg) | ((with_reducible refine gC (f := 14) rfl ?_); refine goesL_ (some 8) rfl rfl Tryd.func14 kR rfl #[.string a0] rfl sQ ?_; (with_reducible refine (spec_pzParse.calls k a0 t173 t174 true _ A2.out).mono ?_); rintro e w5 ⟨v175, rfl, ho0, hb⟩; refine ⟨_, rfl, ?_⟩; have HO176 := aM (Kd.R_lower ho0 (pZ bE)); replace BK172 := bB BK172 hb; replace HB := tB HB hb; (try clear hb); (try clear hb2); (try clear hk); (try clear hi); (try clear ho0)) | ((with_reducible refine gate_dst (N := 4) rfl ?_); refine bV 4 (cs := #[.int .i64 0, .slice none 0 0]) (t := 24) rfl rfl (by first | (go_simp; done) | (go_simp; rfl)) ?_; intro gb178 hg w6 hbox hb; have BK178 := hbox; have GW178 := gZ HB hg; have GE178 := gZ HB hg; have NB172_178 := nG BK172 hg; have NB178_172 := nH BK172 hg; replace HO176 := aM (Kd.R_below (by (with_reducible repeat (first | apply rA | apply rN | apply rD)); exact HO176.out) hb); replace BK172 := bB BK172 hb; replace HB := tB HB hb; clear hb hbox hg; have hnb7 := NB178_172.out; have hnc7 := NB172_178.out; have hcz8_0 := vZ0 BK178; have hcz8_1 := vZ1 BK178; have hfz8_0 := kF BK178.out 0; have hfz8_1 := kF BK178.out 1; obtain ⟨Ao9, co9, eo9⟩ := Kd.R_slice HO176.out; subst eo9; have hcz10_0 := vZ0 BK172; have hcz10_1 := vZ1 BK172; have hfz10_0 := kF BK172.out 0; have hfz10_1 := kF BK172.out 1))
  refine bodyPost_ret (results_ct rfl _ _ gb172 24 #[.int .i64 t173, .slice Ao9 t174.length co9] (0, 0) _ rfl (fQ BK172) Tryd.underlying24 rfl kR) rfl ?_
  exact ⟨_, by first | rfl | (simp [errW_none, errW_some] <;> rfl) | (simp [*, errW_none, errW_some] <;> rfl), by (with_reducible repeat (first | apply rA | apply rN | apply rD)); exact Kd.R_mono (Kd.R_far (p := ⟨gb172, 1, none⟩) (Kd.R_far (p := ⟨gb172, 0, none⟩) (Kd.R_far (p := ⟨gb178, 1, none⟩) (Kd.R_far (p := ⟨gb178, 0, none⟩) (Kd.R_types (Kd.R_types HO176.out BK178.out (by decide)) BK172.out (by decide)) (fun _ hk => hk.1.2) (.int .i64 t173)) (fun _ hk => hk.1.2) (.slice Ao9 t174.length co9)) (fun _ hk => hk.2) (.int .i64 t173)) (fun _ hk => hk.2) (.slice Ao9 t174.length co9)) (fun _ hk => trivial), bE⟩
 ·replace c3 := Bool.eq_false_iff.mpr c3; subst c3; replace H := iF H
  simp only [Option.some.injEq, Prod.mk.injEq] at H
  obtain ⟨rfl, rfl, rfl⟩ := H
  go_enter Tryd.func5, Tryd.ntmps5
  go_wp2_with (first | ((with_reducible refine gate_dst (N := 2) rfl ?_); refine bV 2 (cs := #[.int .i64 0, .slice none 0 0]) (t := 24) rfl rfl (by first | (go_simp; done) | (go_simp; rfl)) ?_; intro gb172 hg w11 hbox hb; have BK172 := hbox; have GW172 := gZ HB hg; have GE172 := gZ HB hg; replace HB := tB HB hb; clear hb hbox hg) | ((with_reducible refine gC (f := 14) rfl ?_); refine goesL_ (some 8) rfl rfl Tryd.func14 kR rfl #[.string a0] rfl sQ ?_; (with_reducible refine (spec_pzParse.calls k a0 t173 t174 false _ A2.out).mono ?_); rintro e w12 ⟨v175, rfl, ho0, hb⟩; refine ⟨_, rfl, ?_⟩; have HO176 := aM (Kd.R_lower ho0 (pZ bE)); replace BK172 := bB BK172 hb; replace HB := tB HB hb; (try clear hb); (try clear hb2); (try clear hk); (try clear hi); (try clear ho0)) | ((with_reducible refine gate_dst (N := 4) rfl ?_); refine bV 4 (cs := #[.int .i64 0, .slice none 0 0]) (t := 24) rfl rfl (by first | (go_simp; done) | (go_simp; rfl)) ?_; intro gb178 hg w13 hbox hb; have BK178 := hbox; have GW178 := gZ HB hg; have GE178 := gZ HB hg; have NB172_178 := nG BK172 hg; have NB178_172 := nH BK172 hg; replace HO176 := aM (Kd.R_below (by (with_reducible repeat (first | apply rA | apply rN | apply rD)); exact HO176.out) hb); replace BK172 := bB BK172 hb; replace HB := tB HB hb; clear hb hbox hg; have hnb14 := NB178_172.out; have hnc14 := NB172_178.out; have hcz15_0 := vZ0 BK178; have hcz15_1 := vZ1 BK178; have hfz15_0 := kF BK178.out 0; have hfz15_1 := kF BK178.out 1; obtain ⟨Ao16, co16, eo16⟩ := Kd.R_slice HO176.out; subst eo16; have hcz17_0 := vZ0 BK172; have hcz17_1 := vZ1 BK172; have hfz17_0 := kF BK172.out 0; have hfz17_1 := kF BK172.out 1))
  refine bodyPost_ret (results_ct rfl _ _ gb172 24 #[.int .i64 0, .slice none 0 0] (0, 0) _ rfl (fQ BK172) Tryd.underlying24 rfl kR) rfl ?_
  exact ⟨_, by first | rfl | (simp [errW_none, errW_some] <;> rfl) | (simp [*, errW_none, errW_some] <;> rfl), by first | exact Kd.R_nil _ _ _ _ _ | exact Kd.N_nil _ _ _ _ _ | exact Kd.V_nil _ _ _ _ _ | exact Kd.Q_nil _ _ _ _ _ | exact Kd.S_nil _ _ _ _ _, bE⟩

-- EXT strconv.Itoa rounds=0 making=1 amb=1
def strconv_Itoa_37.f (a0 : Int) : Option ByteArray := if -9223372036854775808 ≤ a0 then (if a0 ≤ 9223372036854775807 then some ⟨(Lib.itoa a0).toArray⟩ else none) else none
theorem strconv_Itoa_37.calls (a0 : Int) (r : ByteArray) (w : World) (h : strconv_Itoa_37.f a0 = some r) (HT : Aside0 (Tab w) := by first | assumption | exact Tab.below (by assumption) (by repeat (first | (with_reducible first | exact HB.out | apply pw_below_alloc | apply pN | apply below_drew | refine pS ?_ (Aside0.out (by with_reducible assumption))) | exact HB.out))) :
  Calls Tryd.prog 37 #[.int .i64 a0] w fun e w' => e = .returned (.string r) ∧ Below w.heap.size w w' := by
 unfold strconv_Itoa_37.f at h
 by_cases c1 : -9223372036854775808 ≤ a0
 ·rw [if_pos c1] at h
  by_cases c2 : a0 ≤ 9223372036854775807
  ·rw [if_pos c2] at h; obtain rfl := Option.some.inj h
   refine (Tryd.strconv_Itoa a0 c1 c2 w (Tab.pow HT)).mono ?_
   rintro e w' ⟨rfl, k, os, rfl⟩
   exact ⟨rfl, Lib.below_grow _ w (Nat.le_refl _) k os⟩
  ·rw [if_neg c2] at h
   exact absurd h (by simp)
 ·rw [if_neg c1] at h
  exact absurd h (by simp)

def impl_within.f (a0 : Int) (a1 : Int) (a2 : Int) : Option (Bool) := if a0 ≥ a1 then (some (decide (a0 ≤ a2))) else (some false)
set_option maxHeartbeats 8000000 in
set_option maxRecDepth 100000 in
theorem impl_within.calls (a0 : Int) (a1 : Int) (a2 : Int) (r : Bool) (w : World) (h : impl_within.f a0 a1 a2 = some r) :
  Calls Tryd.prog 54 #[.int .i64 a0, .int .i64 a1, .int .i64 a2] w fun e w' => e = .returned (.bool r) ∧ Drawn0 w w' := by
 unfold impl_within.f at h; have H := h; clear h
 by_cases c4 : a0 ≥ a1
 ·rw [if_pos c4] at H; have c4b0 := dE c4; clear c4; obtain rfl := Option.some.inj H
  go_enter Tryd.func54, Tryd.ntmps54
  go_wp2
  go_ret
  exact ⟨eQ, dQ⟩
 ·rw [if_neg c4] at H; have c4b0 := decide_eq_false c4; clear c4; obtain rfl := Option.some.inj H
  go_enter Tryd.func54, Tryd.ntmps54
  go_wp2
  go_ret
  exact ⟨eQ, dQ⟩

def impl_isSide.f (a0 : Int) : Option (Bool) := (impl_within.f a0 1 12).bind fun t179 => (some t179)
set_option maxHeartbeats 8000000 in
set_option maxRecDepth 100000 in
theorem impl_isSide.calls (a0 : Int) (r : Bool) (w : World) (h : impl_isSide.f a0 = some r) :
  Calls Tryd.prog 33 #[.int .i64 a0] w fun e w' => e = .returned (.bool r) ∧ Drawn0 w w' := by
 unfold impl_isSide.f at h; have H := h; clear h
 replace H := bS H; obtain ⟨t179, A2, H⟩ := H; obtain rfl := Option.some.inj H
 go_enter Tryd.func33, Tryd.ntmps33
 go_wp2_with (first | ((with_reducible refine gC (f := 54) rfl ?_); refine goesL_ (some 4) rfl rfl Tryd.func54 kR rfl #[.int .i64 a0, .int .i64 1, .int .i64 12] rfl sQ ?_; (with_reducible refine (impl_within.calls a0 1 12 t179 _ A2.out).mono ?_); rintro e w' ⟨rfl, ⟨nd, rfl⟩⟩; refine ⟨_, rfl, ?_⟩))
 go_ret
 exact ⟨eQ, dQ⟩

-- NOT PRINTED: function 55 (slices_IndexFunc_impl_Clue)

-- NOT PRINTED: function 34 (slices_ContainsFunc_impl_Clue)

mutual
def impl_IsClue.j0 : Nat → Int → Bool → Int → Int → Int → Int → Option (Bool)
 | 0, _, _, _, _, _, _ => none
 | k + 1, x0, x33, x181000, x181001, x181002, x181003 => if x33 = true then (some false) else (if x181000 = 0 then (impl_IsClue.j1 k x0 x181000 (x181000 == 0) x181000 x181001 x181002 x181003) else (if x181000 = 1 then (impl_IsClue.j1 k x0 x181000 (x181000 == 1) x181000 x181001 x181002 x181003) else (impl_IsClue.j1 k x0 x181000 (x181000 == 2) x181000 x181001 x181002 x181003)))
def impl_IsClue.j1 : Nat → Int → Int → Bool → Int → Int → Int → Int → Option (Bool)
 | 0, _, _, _, _, _, _, _ => none
 | k + 1, x0, x35, x36, x181000, x181001, x181002, x181003 => if x36 = true then (if x181002 = 0 then (some (x181003 == 0)) else (some false)) else (if x35 = 3 then ((impl_within.f x181003 0 (wrap64 (x0 * x0))).bind fun t184 => (some t184)) else (if x35 = 4 then ((impl_within.f x181003 0 (wrap64 ((wrap64 (2 * x0)) * x0))).bind fun t185 => (some t185)) else (if x35 = 5 then ((impl_within.f x181003 0 1).bind fun t186 => (some t186)) else (some false))))
end
def impl_IsClue.f (k : Nat) (a0 : Int) (a1_0 : Int) (a1_1 : Int) (a1_2 : Int) (a1_3 : Int) : Option (Bool) := (impl_isSide.f a0).bind fun t181 => (if t181 = true then ((impl_within.f a1_1 0 (wrap64 (2 * a0))).bind fun t182 => (if t182 = true then ((impl_within.f a1_2 0 a0).bind fun t183 => (if t183 = true then (if a1_0 = 2 then (impl_IsClue.j0 k a0 false a1_0 a1_1 a1_2 a1_3) else (impl_IsClue.j0 k a0 (decide (a1_1 > a0)) a1_0 a1_1 a1_2 a1_3)) else (impl_IsClue.j0 k a0 true a1_0 a1_1 a1_2 a1_3))) else (impl_IsClue.j0 k a0 true a1_0 a1_1 a1_2 a1_3))) else (impl_IsClue.j0 k a0 true a1_0 a1_1 a1_2 a1_3))
theorem impl_IsClue.mono_l : ∀ k, (∀ y0 y1 y2 y3 y4 y5, LeO (impl_IsClue.j0 k y0 y1 y2 y3 y4 y5) (impl_IsClue.j0 (k + 1) y0 y1 y2 y3 y4 y5)) ∧ (∀ y0 y1 y2 y3 y4 y5 y6, LeO (impl_IsClue.j1 k y0 y1 y2 y3 y4 y5 y6) (impl_IsClue.j1 (k + 1) y0 y1 y2 y3 y4 y5 y6))
 | 0 => ⟨fun _ _ _ _ _ _ r h => by simp [impl_IsClue.j0] at h, fun _ _ _ _ _ _ _ r h => by simp [impl_IsClue.j1] at h⟩
 | k + 1 => by
  obtain ⟨ih0, ih1⟩ := impl_IsClue.mono_l k
  refine ⟨?_, ?_⟩ <;> intros <;> (first | unfold impl_IsClue.j0 | unfold impl_IsClue.j1) <;> repeat' first | (with_reducible exact ih0 _ _ _ _ _ _) | (with_reducible exact ih1 _ _ _ _ _ _ _) | (with_reducible exact LeO.refl _) | (with_reducible exact LeO.none _) | (with_reducible refine LeO.ite ?_ ?_) | (with_reducible refine LeO.bind ?_ (fun _ => ?_)) | exact ih0 _ _ _ _ _ _ | exact ih1 _ _ _ _ _ _ _ | exact LeO.none _ | refine LeO.ite ?_ ?_ | refine LeO.bind ?_ (fun _ => ?_)
theorem impl_IsClue.mono : ∀ a0 a1 a2 a3 a4 k, LeO (impl_IsClue.f k a0 a1 a2 a3 a4) (impl_IsClue.f (k + 1) a0 a1 a2 a3 a4) := by
 intro a0 a1 a2 a3 a4 k
 obtain ⟨ih0, ih1⟩ := impl_IsClue.mono_l k
 unfold impl_IsClue.f
 repeat' first | (with_reducible exact ih0 _ _ _ _ _ _) | (with_reducible exact ih1 _ _ _ _ _ _ _) | (with_reducible exact LeO.refl _) | (with_reducible exact LeO.none _) | (with_reducible refine LeO.ite ?_ ?_) | (with_reducible refine LeO.bind ?_ (fun _ => ?_)) | exact ih0 _ _ _ _ _ _ | exact ih1 _ _ _ _ _ _ _ | exact LeO.none _ | refine LeO.ite ?_ ?_ | refine LeO.bind ?_ (fun _ => ?_)
set_option maxHeartbeats 8000000 in
set_option maxRecDepth 100000 in
theorem impl_IsClue.calls (k : Nat) (a0 : Int) (a1_0 : Int) (a1_1 : Int) (a1_2 : Int) (a1_3 : Int) (r : Bool) (w : World) (h : impl_IsClue.f k a0 a1_0 a1_1 a1_2 a1_3 = some r) :
  Calls Tryd.prog 36 #[.int .i64 a0, .agg #[.int .i64 a1_0, .int .i64 a1_1, .int .i64 a1_2, .int .i64 a1_3]] w fun e w' => e = .returned (.bool r) ∧ Below w.heap.size w w' := by
 have hu48 := Tryd.underlying48; have HB := aM (Below.refl w.heap.size w)
 unfold impl_IsClue.f at h; have H := h; clear h
 have HC3 := aM H; clear H
 go_enter Tryd.func36, Tryd.ntmps36
 go_upto_region 1 with (first | ((with_reducible refine gate_dst (N := 3) rfl ?_); refine bV 3 (cs := #[.int .i64 a1_0, .int .i64 a1_1, .int .i64 a1_2, .int .i64 a1_3]) (t := 48) rfl rfl (by first | (go_simp; done) | (go_simp; rfl)) ?_; intro gb180 hg w4 hbox hb; have BK180 := hbox; have GW180 := gZ HB hg; have GE180 := gZ HB hg; replace HB := tB HB hb; clear hb hbox hg))
 (try simp only [Act.put, sI, sZ, sS])
 go_cut [33] (fun v33 wc => ∃ (kq : Nat) (x33_2 : Bool), v33 = .bool x33_2 ∧ Aside0 (impl_IsClue.j0 kq a0 x33_2 a1_0 a1_1 a1_2 a1_3 = some r) ∧ Aside0 (kq ≤ k) ∧ Aside0 (wc.heap[gb180]? = some (.cells #[.int .i64 a1_0, .int .i64 a1_1, .int .i64 a1_2, .int .i64 a1_3] 48 (0, 0))) ∧ Aside0 (Below w.heap.size w wc))
 case first =>
  have H := HC3.out; clear HC3; replace H := bS H; obtain ⟨t181, A5, H⟩ := H
  by_cases c6 : t181 = true
  ·subst c6; replace H := iT H; replace H := bS H; obtain ⟨t182, A7, H⟩ := H
   by_cases c8 : t182 = true
   ·subst c8; replace H := iT H; replace H := bS H; obtain ⟨t183, A9, H⟩ := H
    by_cases c10 : t183 = true
    ·subst c10; replace H := iT H
     by_cases c11 : a1_0 = 2
     ·rw [if_pos c11] at H; have c11b0 : (a1_0 == 2) = true := beq_iff_eq.mpr c11; have c11b1 : (a1_0 != 2) = false := bne_eq_false_iff_eq.mpr c11; clear c11
      (first | rw [c11b0] | (simp only [i64_w, i32_w]; rw [c11b0]) | skip)
      have H' := aM H; clear H
      go_wp2_with (first | ((with_reducible refine gC (f := 33) rfl ?_); refine goesL_ (some 6) rfl rfl Tryd.func33 kR rfl #[.int .i64 a0] rfl sQ ?_; (with_reducible refine (impl_isSide.calls a0 true _ A5.out).mono ?_); rintro e w' ⟨rfl, ⟨nd, rfl⟩⟩; refine ⟨_, rfl, ?_⟩; have hcz12_0 := vZ0 BK180; have hcz12_1 := vZ1 BK180; have hcz12_2 := vZ2 BK180; have hcz12_3 := vZ3 BK180; have hfz12_0 := kF BK180.out 0; have hfz12_1 := kF BK180.out 1; have hfz12_2 := kF BK180.out 2; have hfz12_3 := kF BK180.out 3) | (go_at_call 54; (with_reducible refine (impl_within.calls a1_1 0 (wrap64 (2 * a0)) true _ A7.out).mono ?_); rintro e w' ⟨rfl, ⟨nd, rfl⟩⟩) | (go_at_call 54; (with_reducible refine (impl_within.calls a1_2 0 a0 true _ A9.out).mono ?_); rintro e w' ⟨rfl, ⟨nd, rfl⟩⟩))
      go_meet
      case rel => exact ⟨_, (false), eQ, H', ⟨by first | omega | exact Nat.le_refl _⟩, ⟨gQ BK180⟩, ⟨bE⟩⟩
     ·rw [if_neg c11] at H; have c11b0 : (a1_0 == 2) = false := beq_eq_false_iff_ne.mpr c11; have c11b1 : (a1_0 != 2) = true := bne_iff_ne.mpr c11
      (first | rw [c11b0] | (simp only [i64_w, i32_w]; rw [c11b0]) | skip)
      have H' := aM H; clear H
      go_wp2_with (first | ((with_reducible refine gC (f := 33) rfl ?_); refine goesL_ (some 6) rfl rfl Tryd.func33 kR rfl #[.int .i64 a0] rfl sQ ?_; (with_reducible refine (impl_isSide.calls a0 true _ A5.out).mono ?_); rintro e w' ⟨rfl, ⟨nd, rfl⟩⟩; refine ⟨_, rfl, ?_⟩; have hcz13_0 := vZ0 BK180; have hcz13_1 := vZ1 BK180; have hcz13_2 := vZ2 BK180; have hcz13_3 := vZ3 BK180; have hfz13_0 := kF BK180.out 0; have hfz13_1 := kF BK180.out 1; have hfz13_2 := kF BK180.out 2; have hfz13_3 := kF BK180.out 3) | (go_at_call 54; (with_reducible refine (impl_within.calls a1_1 0 (wrap64 (2 * a0)) true _ A7.out).mono ?_); rintro e w' ⟨rfl, ⟨nd, rfl⟩⟩) | (go_at_call 54; (with_reducible refine (impl_within.calls a1_2 0 a0 true _ A9.out).mono ?_); rintro e w' ⟨rfl, ⟨nd, rfl⟩⟩))
      go_meet
      case rel => exact ⟨_, (decide (a1_1 > a0)), eQ, H', ⟨by first | omega | exact Nat.le_refl _⟩, ⟨gQ BK180⟩, ⟨bE⟩⟩
    ·replace c10 := Bool.eq_false_iff.mpr c10; subst c10; replace H := iF H; have H' := aM H; clear H
     go_wp2_with (first | ((with_reducible refine gC (f := 33) rfl ?_); refine goesL_ (some 6) rfl rfl Tryd.func33 kR rfl #[.int .i64 a0] rfl sQ ?_; (with_reducible refine (impl_isSide.calls a0 true _ A5.out).mono ?_); rintro e w' ⟨rfl, ⟨nd, rfl⟩⟩; refine ⟨_, rfl, ?_⟩; have hcz14_0 := vZ0 BK180; have hcz14_1 := vZ1 BK180; have hcz14_2 := vZ2 BK180; have hcz14_3 := vZ3 BK180; have hfz14_0 := kF BK180.out 0; have hfz14_1 := kF BK180.out 1; have hfz14_2 := kF BK180.out 2; have hfz14_3 := kF BK180.out 3) | (go_at_call 54; (with_reducible refine (impl_within.calls a1_1 0 (wrap64 (2 * a0)) true _ A7.out).mono ?_); rintro e w' ⟨rfl, ⟨nd, rfl⟩⟩) | (go_at_call 54; (with_reducible refine (impl_within.calls a1_2 0 a0 false _ A9.out).mono ?_); rintro e w' ⟨rfl, ⟨nd, rfl⟩⟩))
     go_meet
     case rel => exact ⟨_, (true), eQ, H', ⟨by first | omega | exact Nat.le_refl _⟩, ⟨gQ BK180⟩, ⟨bE⟩⟩
   ·replace c8 := Bool.eq_false_iff.mpr c8; subst c8; replace H := iF H; have H' := aM H; clear H
    go_wp2_with (first | ((with_reducible refine gC (f := 33) rfl ?_); refine goesL_ (some 6) rfl rfl Tryd.func33 kR rfl #[.int .i64 a0] rfl sQ ?_; (with_reducible refine (impl_isSide.calls a0 true _ A5.out).mono ?_); rintro e w' ⟨rfl, ⟨nd, rfl⟩⟩; refine ⟨_, rfl, ?_⟩; have hcz15_0 := vZ0 BK180; have hcz15_1 := vZ1 BK180; have hcz15_2 := vZ2 BK180; have hcz15_3 := vZ3 BK180; have hfz15_0 := kF BK180.out 0; have hfz15_1 := kF BK180.out 1; have hfz15_2 := kF BK180.out 2; have hfz15_3 := kF BK180.out 3) | (go_at_call 54; (with_reducible refine (impl_within.calls a1_1 0 (wrap64 (2 * a0)) false _ A7.out).mono ?_); rintro e w' ⟨rfl, ⟨nd, rfl⟩⟩))
    go_meet
    case rel => exact ⟨_, (true), eQ, H', ⟨by first | omega | exact Nat.le_refl _⟩, ⟨gQ BK180⟩, ⟨bE⟩⟩
  ·replace c6 := Bool.eq_false_iff.mpr c6; subst c6; replace H := iF H; have H' := aM H; clear H
   go_wp2_with (first | ((with_reducible refine gC (f := 33) rfl ?_); refine goesL_ (some 6) rfl rfl Tryd.func33 kR rfl #[.int .i64 a0] rfl sQ ?_; (with_reducible refine (impl_isSide.calls a0 false _ A5.out).mono ?_); rintro e w' ⟨rfl, ⟨nd, rfl⟩⟩; refine ⟨_, rfl, ?_⟩))
   go_meet
   case rel => exact ⟨_, (true), eQ, H', ⟨by first | omega | exact Nat.le_refl _⟩, ⟨gQ BK180⟩, ⟨bE⟩⟩
 case rest =>
  clear HC3; obtain ⟨kq, x33_2, rfl, HA, HJ2, BK180, HB⟩ := hcut
  cases kq with
  | zero => exact absurd HA.out (by simp [impl_IsClue.j0])
  | succ kj2 =>
   have H := HA.out; clear HA
   simp only [impl_IsClue.j0] at H
   by_cases c16 : x33_2 = true
   ·subst c16; replace H := iT H; obtain rfl := Option.some.inj H; go_wp2
    go_ret
    exact ⟨wQ, bE⟩
   ·replace c16 := Bool.eq_false_iff.mpr c16; subst c16; replace H := iF H; have HC17 := aM H; clear H; have hcz18_0 : wc.cell? ⟨gb180, 0, none⟩ = some (.int .i64 a1_0) := vZ0 BK180; have hcz18_1 : wc.cell? ⟨gb180, 1, none⟩ = some (.int .i64 a1_1) := vZ1 BK180; have hcz18_2 : wc.cell? ⟨gb180, 2, none⟩ = some (.int .i64 a1_2) := vZ2 BK180; have hcz18_3 : wc.cell? ⟨gb180, 3, none⟩ = some (.int .i64 a1_3) := vZ3 BK180; have hfz18_0 := kF BK180.out 0; have hfz18_1 := kF BK180.out 1; have hfz18_2 := kF BK180.out 2; have hfz18_3 := kF BK180.out 3
    go_upto_if 36 with (fail)
    go_cut [36] (fun v36 wc => ∃ (kq : Nat) (x36_16 : Bool), v36 = .bool x36_16 ∧ Aside0 (impl_IsClue.j1 kq a0 a1_0 x36_16 a1_0 a1_1 a1_2 a1_3 = some r) ∧ Aside0 (kq ≤ kj2) ∧ Aside0 (wc.heap[gb180]? = some (.cells #[.int .i64 a1_0, .int .i64 a1_1, .int .i64 a1_2, .int .i64 a1_3] 48 (0, 0))) ∧ Aside0 (Below w.heap.size w wc))
    case first =>
     have H := HC17.out; clear HC17
     by_cases c19 : a1_0 = 0
     ·rw [if_pos c19] at H; have c19b0 : (a1_0 == 0) = true := beq_iff_eq.mpr c19; have c19b1 : (a1_0 != 0) = false := bne_eq_false_iff_eq.mpr c19; clear c19
      (first | rw [c19b0] | (simp only [i64_w, i32_w]; rw [c19b0]) | skip)
      have H' := aM H; clear H; go_wp2
      go_meet
      case rel => exact ⟨_, ((a1_0 == 0)), eQ, H', ⟨by have := HJ2.out; first | omega | exact Nat.le_refl _⟩, ⟨gQ BK180⟩, ⟨bE⟩⟩
     ·rw [if_neg c19] at H; have c19b0 : (a1_0 == 0) = false := beq_eq_false_iff_ne.mpr c19; have c19b1 : (a1_0 != 0) = true := bne_iff_ne.mpr c19
      (first | rw [c19b0] | (simp only [i64_w, i32_w]; rw [c19b0]) | skip)
      by_cases c20 : a1_0 = 1
      ·rw [if_pos c20] at H; have c20b0 : (a1_0 == 1) = true := beq_iff_eq.mpr c20; have c20b1 : (a1_0 != 1) = false := bne_eq_false_iff_eq.mpr c20; clear c20; have H' := aM H; clear H; go_wp2
       go_meet
       case rel => exact ⟨_, ((a1_0 == 1)), eQ, H', ⟨by have := HJ2.out; first | omega | exact Nat.le_refl _⟩, ⟨gQ BK180⟩, ⟨bE⟩⟩
      ·rw [if_neg c20] at H; have c20b0 : (a1_0 == 1) = false := beq_eq_false_iff_ne.mpr c20; have c20b1 : (a1_0 != 1) = true := bne_iff_ne.mpr c20; have H' := aM H; clear H; go_wp2
       go_meet
       case rel => exact ⟨_, ((a1_0 == 2)), eQ, H', ⟨by have := HJ2.out; first | omega | exact Nat.le_refl _⟩, ⟨gQ BK180⟩, ⟨bE⟩⟩
    case rest =>
     clear HC17; (try clear c16); (try clear hcz18_0); (try clear hcz18_1); (try clear hcz18_2); (try clear hcz18_3); (try clear hfz18_0); (try clear hfz18_1); (try clear hfz18_2); (try clear hfz18_3); obtain ⟨kq, x36_16, rfl, HA, HJ16, BK180, HB⟩ := hcut
     cases kq with
     | zero => exact absurd HA.out (by simp [impl_IsClue.j1])
     | succ kj16 =>
      have H := HA.out; clear HA
      simp only [impl_IsClue.j1] at H
      by_cases c21 : x36_16 = true
      ·subst c21; replace H := iT H
       by_cases c22 : a1_2 = 0
       ·rw [if_pos c22] at H; have c22b0 : (a1_2 == 0) = true := beq_iff_eq.mpr c22; have c22b1 : (a1_2 != 0) = false := bne_eq_false_iff_eq.mpr c22; clear c22; obtain rfl := Option.some.inj H; have hcz23_0 : wc.cell? ⟨gb180, 0, none⟩ = some (.int .i64 a1_0) := vZ0 BK180; have hcz23_1 : wc.cell? ⟨gb180, 1, none⟩ = some (.int .i64 a1_1) := vZ1 BK180; have hcz23_2 : wc.cell? ⟨gb180, 2, none⟩ = some (.int .i64 a1_2) := vZ2 BK180; have hcz23_3 : wc.cell? ⟨gb180, 3, none⟩ = some (.int .i64 a1_3) := vZ3 BK180; have hfz23_0 := kF BK180.out 0; have hfz23_1 := kF BK180.out 1; have hfz23_2 := kF BK180.out 2; have hfz23_3 := kF BK180.out 3; go_wp2
        go_ret
        exact ⟨wQ, bE⟩
       ·rw [if_neg c22] at H; have c22b0 : (a1_2 == 0) = false := beq_eq_false_iff_ne.mpr c22; have c22b1 : (a1_2 != 0) = true := bne_iff_ne.mpr c22; obtain rfl := Option.some.inj H; have hcz24_0 : wc.cell? ⟨gb180, 0, none⟩ = some (.int .i64 a1_0) := vZ0 BK180; have hcz24_1 : wc.cell? ⟨gb180, 1, none⟩ = some (.int .i64 a1_1) := vZ1 BK180; have hcz24_2 : wc.cell? ⟨gb180, 2, none⟩ = some (.int .i64 a1_2) := vZ2 BK180; have hcz24_3 : wc.cell? ⟨gb180, 3, none⟩ = some (.int .i64 a1_3) := vZ3 BK180; have hfz24_0 := kF BK180.out 0; have hfz24_1 := kF BK180.out 1; have hfz24_2 := kF BK180.out 2; have hfz24_3 := kF BK180.out 3; go_wp2
        go_ret
        exact ⟨wQ, bE⟩
      ·replace c21 := Bool.eq_false_iff.mpr c21; subst c21; replace H := iF H
       by_cases c25 : a1_0 = 3
       ·rw [if_pos c25] at H; have c25b0 : (a1_0 == 3) = true := beq_iff_eq.mpr c25; have c25b1 : (a1_0 != 3) = false := bne_eq_false_iff_eq.mpr c25; clear c25; replace H := bS H; obtain ⟨t184, A26, H⟩ := H; obtain rfl := Option.some.inj H; have hcz27_0 : wc.cell? ⟨gb180, 0, none⟩ = some (.int .i64 a1_0) := vZ0 BK180; have hcz27_1 : wc.cell? ⟨gb180, 1, none⟩ = some (.int .i64 a1_1) := vZ1 BK180; have hcz27_2 : wc.cell? ⟨gb180, 2, none⟩ = some (.int .i64 a1_2) := vZ2 BK180; have hcz27_3 : wc.cell? ⟨gb180, 3, none⟩ = some (.int .i64 a1_3) := vZ3 BK180; have hfz27_0 := kF BK180.out 0; have hfz27_1 := kF BK180.out 1; have hfz27_2 := kF BK180.out 2; have hfz27_3 := kF BK180.out 3
        go_wp2_with (first | ((with_reducible refine gC (f := 54) rfl ?_); refine goesL_ (some 55) rfl rfl Tryd.func54 kR rfl #[.int .i64 a1_3, .int .i64 0, .int .i64 (wrap64 (a0 * a0))] rfl sQ ?_; (with_reducible refine (impl_within.calls a1_3 0 (wrap64 (a0 * a0)) t184 _ A26.out).mono ?_); rintro e w' ⟨rfl, ⟨nd, rfl⟩⟩; refine ⟨_, rfl, ?_⟩))
        go_ret
        exact ⟨wQ, bE⟩
       ·rw [if_neg c25] at H; have c25b0 : (a1_0 == 3) = false := beq_eq_false_iff_ne.mpr c25; have c25b1 : (a1_0 != 3) = true := bne_iff_ne.mpr c25
        by_cases c28 : a1_0 = 4
        ·rw [if_pos c28] at H; have c28b0 : (a1_0 == 4) = true := beq_iff_eq.mpr c28; have c28b1 : (a1_0 != 4) = false := bne_eq_false_iff_eq.mpr c28; clear c28; replace H := bS H; obtain ⟨t185, A29, H⟩ := H; obtain rfl := Option.some.inj H; have hcz30_0 : wc.cell? ⟨gb180, 0, none⟩ = some (.int .i64 a1_0) := vZ0 BK180; have hcz30_1 : wc.cell? ⟨gb180, 1, none⟩ = some (.int .i64 a1_1) := vZ1 BK180; have hcz30_2 : wc.cell? ⟨gb180, 2, none⟩ = some (.int .i64 a1_2) := vZ2 BK180; have hcz30_3 : wc.cell? ⟨gb180, 3, none⟩ = some (.int .i64 a1_3) := vZ3 BK180; have hfz30_0 := kF BK180.out 0; have hfz30_1 := kF BK180.out 1; have hfz30_2 := kF BK180.out 2; have hfz30_3 := kF BK180.out 3
         go_wp2_with (first | ((with_reducible refine gC (f := 54) rfl ?_); refine goesL_ (some 64) rfl rfl Tryd.func54 kR rfl #[.int .i64 a1_3, .int .i64 0, .int .i64 (wrap64 ((wrap64 (2 * a0)) * a0))] rfl sQ ?_; (with_reducible refine (impl_within.calls a1_3 0 (wrap64 ((wrap64 (2 * a0)) * a0)) t185 _ A29.out).mono ?_); rintro e w' ⟨rfl, ⟨nd, rfl⟩⟩; refine ⟨_, rfl, ?_⟩))
         go_ret
         exact ⟨wQ, bE⟩
        ·rw [if_neg c28] at H; have c28b0 : (a1_0 == 4) = false := beq_eq_false_iff_ne.mpr c28; have c28b1 : (a1_0 != 4) = true := bne_iff_ne.mpr c28
         by_cases c31 : a1_0 = 5
         ·rw [if_pos c31] at H; have c31b0 : (a1_0 == 5) = true := beq_iff_eq.mpr c31; have c31b1 : (a1_0 != 5) = false := bne_eq_false_iff_eq.mpr c31; clear c31; replace H := bS H; obtain ⟨t186, A32, H⟩ := H; obtain rfl := Option.some.inj H; have hcz33_0 : wc.cell? ⟨gb180, 0, none⟩ = some (.int .i64 a1_0) := vZ0 BK180; have hcz33_1 : wc.cell? ⟨gb180, 1, none⟩ = some (.int .i64 a1_1) := vZ1 BK180; have hcz33_2 : wc.cell? ⟨gb180, 2, none⟩ = some (.int .i64 a1_2) := vZ2 BK180; have hcz33_3 : wc.cell? ⟨gb180, 3, none⟩ = some (.int .i64 a1_3) := vZ3 BK180; have hfz33_0 := kF BK180.out 0; have hfz33_1 := kF BK180.out 1; have hfz33_2 := kF BK180.out 2; have hfz33_3 := kF BK180.out 3
          go_wp2_with (first | ((with_reducible refine gC (f := 54) rfl ?_); refine goesL_ (some 69) rfl rfl Tryd.func54 kR rfl #[.int .i64 a1_3, .int .i64 0, .int .i64 1] rfl sQ ?_; (with_reducible refine (impl_within.calls a1_3 0 1 t186 _ A32.out).mono ?_); rintro e w' ⟨rfl, ⟨nd, rfl⟩⟩; refine ⟨_, rfl, ?_⟩))
          go_ret
          exact ⟨wQ, bE⟩
         ·rw [if_neg c31] at H; have c31b0 : (a1_0 == 5) = false := beq_eq_false_iff_ne.mpr c31; have c31b1 : (a1_0 != 5) = true := bne_iff_ne.mpr c31; obtain rfl := Option.some.inj H; go_wp2
          go_ret
          exact ⟨wQ, bE⟩

def impl_IsPuzzle_1.f (k : Nat) (a0_0 : Int) (a0_1 : Int) (a0_2 : Int) (a0_3 : Int) (a1_0 : Int) (l1_1 : List (S_impl_Clue)) : Option (Bool) := (impl_IsClue.f k a1_0 a0_0 a0_1 a0_2 a0_3).bind fun t188 => (some (!t188))
theorem impl_IsPuzzle_1.mono : ∀ a0 a1 a2 a3 a4 a5 k, LeO (impl_IsPuzzle_1.f k a0 a1 a2 a3 a4 a5) (impl_IsPuzzle_1.f (k + 1) a0 a1 a2 a3 a4 a5) := by
 intro a0 a1 a2 a3 a4 a5 k
 unfold impl_IsPuzzle_1.f
 repeat' first | (with_reducible exact impl_IsClue.mono _ _ _ _ _ _) | (with_reducible exact LeO.refl _) | (with_reducible exact LeO.none _) | (with_reducible refine LeO.ite ?_ ?_) | (with_reducible refine LeO.bind ?_ (fun _ => ?_)) | exact impl_IsClue.mono _ _ _ _ _ _ | exact LeO.none _ | refine LeO.ite ?_ ?_ | refine LeO.bind ?_ (fun _ => ?_)
set_option maxHeartbeats 8000000 in
set_option maxRecDepth 100000 in
theorem impl_IsPuzzle_1.calls (k : Nat) (a0_0 : Int) (a0_1 : Int) (a0_2 : Int) (a0_3 : Int) (gx1 : Nat) (a1_0 : Int) (A1_1 : Option Addr) (c1_1 : Nat) (l1_1 : List (S_impl_Clue)) (r : Bool) (w : World) (hr1_1 : Kd.C kd_impl_Clue w A1_1 l1_1.length l1_1) (hc1_1 : l1_1.length ≤ c1_1) (hbx1 : w.heap[gx1]? = some (.cells #[.int .i64 a1_0, .slice A1_1 l1_1.length c1_1] 24 (0, 0))) (h : impl_IsPuzzle_1.f k a0_0 a0_1 a0_2 a0_3 a1_0 l1_1 = some r) :
  Calls Tryd.prog 35 #[.agg #[.int .i64 a0_0, .int .i64 a0_1, .int .i64 a0_2, .int .i64 a0_3], .pointer (some ⟨gx1, 0, none⟩)] w fun e w' => e = .returned (.bool r) ∧ Below w.heap.size w w' := by
 have hu48 := Tryd.underlying48; have hu3 := Tryd.underlying3; have HR1_1 := aM hr1_1; have HC1_1 := aM hc1_1; clear hr1_1 hc1_1; have BK1 := aM hbx1; clear hbx1; have HB := aM (Below.refl w.heap.size w)
 unfold impl_IsPuzzle_1.f at h; have H := h; clear h
 replace H := bS H; obtain ⟨t188, A3, H⟩ := H; obtain rfl := Option.some.inj H
 go_enter Tryd.func35, Tryd.ntmps35
 go_wp2_with (first | ((with_reducible refine gate_dst (N := 2) rfl ?_); refine bV 2 (cs := #[.int .i64 a0_0, .int .i64 a0_1, .int .i64 a0_2, .int .i64 a0_3]) (t := 48) rfl rfl (by first | (go_simp; done) | (go_simp; rfl)) ?_; intro gb187 hg w4 hbox hb; have BK187 := hbox; have GW187 := gZ HB hg; have GE187 := gZ HB hg; have NB1_187 := aM ((by rw [hg]; exact nN (blk_lt (g := gx1) (o := .cells #[.int .i64 a1_0, .slice A1_1 l1_1.length c1_1] 24 (0, 0)) (gQ BK1)) : gx1 ≠ gb187)); have NB187_1 := aM ((by rw [hg]; exact Nat.ne_of_gt (blk_lt (g := gx1) (o := .cells #[.int .i64 a1_0, .slice A1_1 l1_1.length c1_1] 24 (0, 0)) (gQ BK1)) : gb187 ≠ gx1)); replace BK1 := aM (blk_below (g := gx1) (o := .cells #[.int .i64 a1_0, .slice A1_1 l1_1.length c1_1] 24 (0, 0)) (gQ BK1) hb); replace HB := tB HB hb; clear hb hbox hg; have hnb5 := NB1_187.out; have hnc5 := NB187_1.out; have hcz6_0 : w4.cell? ⟨gx1, 0, none⟩ = some (.int .i64 a1_0) := vZ0 BK1; have hcz6_1 : w4.cell? ⟨gx1, 1, none⟩ = some (.slice A1_1 l1_1.length c1_1) := vZ1 BK1; have hfz6_0 := kF BK1.out 0; have hfz6_1 := kF BK1.out 1; have hcz7_0 := vZ0 BK187; have hcz7_1 := vZ1 BK187; have hcz7_2 := vZ2 BK187; have hcz7_3 := vZ3 BK187; have hfz7_0 := kF BK187.out 0; have hfz7_1 := kF BK187.out 1; have hfz7_2 := kF BK187.out 2; have hfz7_3 := kF BK187.out 3) | ((with_reducible refine gC (f := 36) rfl ?_); refine goesL_ (some 7) rfl rfl Tryd.func36 kR rfl #[.int .i64 a1_0, .agg #[.int .i64 a0_0, .int .i64 a0_1, .int .i64 a0_2, .int .i64 a0_3]] rfl sQ ?_; (with_reducible refine (impl_IsClue.calls k a1_0 a0_0 a0_1 a0_2 a0_3 t188 _ A3.out).mono ?_); rintro e w8 ⟨rfl, hb⟩; refine ⟨_, rfl, ?_⟩; replace BK1 := aM (blk_below (g := gx1) (o := .cells #[.int .i64 a1_0, .slice A1_1 l1_1.length c1_1] 24 (0, 0)) (gQ BK1) hb); replace BK187 := bB BK187 hb; replace HB := tB HB hb; (try clear hb); (try clear hb2); (try clear hk); (try clear hi)))
 go_ret
 exact ⟨wQ, bE⟩

end Go.Proofs.YtoeclfihlhmnpaaDoor.X
