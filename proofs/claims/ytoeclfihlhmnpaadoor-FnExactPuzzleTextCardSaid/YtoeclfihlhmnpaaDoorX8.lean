-- thin
-- short
-- compact
import Derived.Test.YtoeclfihlhmnpaaDoorXA
import Derived.Test.YtoeclfihlhmnpaaDoorX0
import Derived.Test.YtoeclfihlhmnpaaDoorX1
import Derived.Test.YtoeclfihlhmnpaaDoorX4
import Derived.Test.YtoeclfihlhmnpaaDoorX5
import Derived.Test.YtoeclfihlhmnpaaDoorX7
import Derived.Test.YtoeclfihlhmnpaaDoorXW5
namespace Go.Proofs.YtoeclfihlhmnpaaDoor.X
open Go.RowKit Go.Proofs.YtoeclfihlhmnpaaDoor.XW Go.Proofs.YtoeclfihlhmnpaaDoorW.PrintWords Go.Proofs.YtoeclfihlhmnpaaDoorW.PrintLast Go.Proofs.YtoeclfihlhmnpaaDoorW.PrintMore
attribute [local go_sem] max2_int min2_int max_two min_two max_three min_three max_four min_four   -- for this text's walks alone
set_option linter.unusedVariables false
set_option linter.unusedSimpArgs false

def laws_FnExactPuzzleText.j0 : Nat → Bool → Int → List (S_laws_Clue) → Int → List (S_impl_Clue) → Option (Bool)
 | 0, _, _, _, _, _ => none
 | k + 1, x34, x200000, x200001, x212000, x212001 => if x34 = true then (some false) else ((laws_toPuzzle.f k x200000 x200001).bind fun bt214 => ((laws_eqPuzzle.f k x212000 x212001 bt214.1 bt214.2).bind fun t218 => (if t218 = true then (some true) else (some false))))
def laws_FnExactPuzzleText.f (k : Nat) (a0_0 : Int) (l0_1 : List (S_laws_Clue)) : Option (Bool) := (laws_szPuzzle.f a0_0 l0_1 1048576).bind fun t200 => (if t200 < 0 then (some true) else ((laws_toPuzzle.f k a0_0 l0_1).bind fun bt201 => ((spec_PuzzleText.f k bt201.1 bt201.2).bind fun bt205 => ((laws_toPuzzle.f k a0_0 l0_1).bind fun bt207 => ((impl_PuzzleText.f k bt207.1 bt207.2).bind fun bt212 => (if bt212.1.toList = bt205.1.toList then (laws_FnExactPuzzleText.j0 k (bt212.2 != bt205.2) a0_0 l0_1 bt207.1 bt207.2) else (laws_FnExactPuzzleText.j0 k true a0_0 l0_1 bt207.1 bt207.2)))))))
theorem laws_FnExactPuzzleText.mono_l : ∀ k, (∀ y0 y1 y2 y3 y4, LeO (laws_FnExactPuzzleText.j0 k y0 y1 y2 y3 y4) (laws_FnExactPuzzleText.j0 (k + 1) y0 y1 y2 y3 y4))
 | 0 => fun _ _ _ _ _ r h => by simp [laws_FnExactPuzzleText.j0] at h
 | k + 1 => by
  have ih0 := laws_FnExactPuzzleText.mono_l k
  ·intro y0 y1 y2 y3 y4
   unfold laws_FnExactPuzzleText.j0
   repeat' first
   | (with_reducible exact ih0 _ _ _ _ _)
   | (with_reducible exact impl_PuzzleText.mono _ _ _)
   | (with_reducible exact laws_eqPuzzle.mono _ _ _ _ _)
   | (with_reducible exact laws_toPuzzle.mono _ _ _)
   | (with_reducible exact spec_PuzzleText.mono _ _ _)
   | (with_reducible exact LeO.refl _)
   | (with_reducible exact LeO.none _)
   | (with_reducible refine LeO.ite ?_ ?_)
   | (with_reducible refine LeO.bind ?_ (fun _ => ?_))
   | exact ih0 _ _ _ _ _
   | exact impl_PuzzleText.mono _ _ _
   | exact laws_eqPuzzle.mono _ _ _ _ _
   | exact laws_toPuzzle.mono _ _ _
   | exact spec_PuzzleText.mono _ _ _
   | exact LeO.none _
   | refine LeO.ite ?_ ?_
   | refine LeO.bind ?_ (fun _ => ?_)
theorem laws_FnExactPuzzleText.mono : ∀ a0 a1 k, LeO (laws_FnExactPuzzleText.f k a0 a1) (laws_FnExactPuzzleText.f (k + 1) a0 a1) := by
 intro a0 a1 k
 have ih0 := laws_FnExactPuzzleText.mono_l k
 unfold laws_FnExactPuzzleText.f
 repeat' first | (with_reducible exact ih0 _ _ _ _ _) | (with_reducible exact impl_PuzzleText.mono _ _ _) | (with_reducible exact laws_eqPuzzle.mono _ _ _ _ _) | (with_reducible exact laws_toPuzzle.mono _ _ _) | (with_reducible exact spec_PuzzleText.mono _ _ _) | (with_reducible exact LeO.refl _) | (with_reducible exact LeO.none _) | (with_reducible refine LeO.ite ?_ ?_) | (with_reducible refine LeO.bind ?_ (fun _ => ?_)) | exact ih0 _ _ _ _ _ | exact impl_PuzzleText.mono _ _ _ | exact laws_eqPuzzle.mono _ _ _ _ _ | exact laws_toPuzzle.mono _ _ _ | exact spec_PuzzleText.mono _ _ _ | exact LeO.none _ | refine LeO.ite ?_ ?_ | refine LeO.bind ?_ (fun _ => ?_)
set_option maxHeartbeats 8000000 in
set_option maxRecDepth 100000 in
theorem laws_FnExactPuzzleText.calls (k : Nat) (a0_0 : Int) (A0_1 : Option Addr) (c0_1 : Nat) (l0_1 : List (S_laws_Clue)) (r : Bool) (w : World) (hr0_1 : Kd.C kd_laws_Clue w A0_1 l0_1.length l0_1) (hc0_1 : l0_1.length ≤ c0_1) (h : laws_FnExactPuzzleText.f k a0_0 l0_1 = some r) (HT : Aside0 (Tab w) := by first | assumption | exact Tab.below (by assumption) bE) :
  Calls Tryd.prog 4 #[.agg #[.int .i64 a0_0, .slice A0_1 l0_1.length c0_1]] w fun e w' => e = .returned (.bool r) ∧ Below w.heap.size w w' := by
 have hu32 := Tryd.underlying32; have hu24 := Tryd.underlying24; have HR0_1 := aM hr0_1; have HC0_1 := aM hc0_1; clear hr0_1 hc0_1; have HB := aM (Below.refl w.heap.size w)
 unfold laws_FnExactPuzzleText.f at h; have H := h; clear h
 replace H := bS H; obtain ⟨t200, A2, H⟩ := H
 by_cases c3 : t200 < 0
 ·rw [if_pos c3] at H; have c3b0 := dE c3; clear c3; obtain rfl := Option.some.inj H
  go_enter Tryd.func4, Tryd.ntmps4
  go_wp2_with (first | ((with_reducible refine gate_dst (N := 1) rfl ?_); refine bV 1 (cs := #[.int .i64 a0_0, .slice A0_1 l0_1.length c0_1]) (t := 32) rfl rfl (by first | (go_simp; done) | (go_simp; rfl)) ?_; intro gb199 hg w4 hbox hb; have BK199 := hbox; have GW199 := gZ HB hg; have GE199 := gZ HB hg; replace HB := tB HB hb; clear hb hbox hg; have hcz5_0 := vZ0 BK199; have hcz5_1 := vZ1 BK199; have hfz5_0 := kF BK199.out 0; have hfz5_1 := kF BK199.out 1) | ((with_reducible refine gC (f := 10) rfl ?_); refine goesL_ (some 11) rfl rfl Tryd.func10 kR rfl #[.agg #[.int .i64 a0_0, .slice A0_1 l0_1.length c0_1], .int .i64 1048576] rfl sQ ?_; (with_reducible refine (laws_szPuzzle.calls a0_0 _ _ l0_1 1048576 t200 _ ?side1 ?side2 A2.out).mono ?_); (case side1 => repeat (first | exact (Kd.C_below HR0_1.out HB.out) | (with_reducible refine cA ?_ _) | (with_reducible refine cN ?_ _) | (with_reducible refine cD ?_))); (case side2 => exact HC0_1.out); rintro e w6 ⟨rfl, hb⟩; refine ⟨_, rfl, ?_⟩; replace BK199 := bB BK199 hb; replace HB := tB HB hb; (try clear hb); (try clear hb2); (try clear hk); (try clear hi)))
  go_ret
  exact ⟨wQ, bE⟩
 ·rw [if_neg c3] at H; have c3b0 := decide_eq_false c3; clear c3; replace H := bS H; obtain ⟨⟨t201, t202⟩, A7, H⟩ := H; replace H := bS H; obtain ⟨⟨t205, t206⟩, A8, H⟩ := H; replace H := bS H; obtain ⟨⟨t207, t208⟩, A9, H⟩ := H; replace H := bS H; obtain ⟨⟨t212, t213⟩, A10, H⟩ := H; have HC11 := aM H; clear H
  go_enter Tryd.func4, Tryd.ntmps4
  go_upto_region 8 with (first | ((with_reducible refine gate_dst (N := 1) rfl ?_); refine bV 1 (cs := #[.int .i64 a0_0, .slice A0_1 l0_1.length c0_1]) (t := 32) rfl rfl (by first | (go_simp; done) | (go_simp; rfl)) ?_; intro gb199 hg w12 hbox hb; have BK199 := hbox; have GW199 := gZ HB hg; have GE199 := gZ HB hg; replace HB := tB HB hb; clear hb hbox hg; have hcz13_0 := vZ0 BK199; have hcz13_1 := vZ1 BK199; have hfz13_0 := kF BK199.out 0; have hfz13_1 := kF BK199.out 1) | ((with_reducible refine gC (f := 10) rfl ?_); refine goesL_ (some 11) rfl rfl Tryd.func10 kR rfl #[.agg #[.int .i64 a0_0, .slice A0_1 l0_1.length c0_1], .int .i64 1048576] rfl sQ ?_; (with_reducible refine (laws_szPuzzle.calls a0_0 _ _ l0_1 1048576 t200 _ ?side1 ?side2 A2.out).mono ?_); (case side1 => repeat (first | exact (Kd.C_below HR0_1.out HB.out) | (with_reducible refine cA ?_ _) | (with_reducible refine cN ?_ _) | (with_reducible refine cD ?_))); (case side2 => exact HC0_1.out); rintro e w14 ⟨rfl, hb⟩; refine ⟨_, rfl, ?_⟩; replace BK199 := bB BK199 hb; replace HB := tB HB hb; (try clear hb); (try clear hb2); (try clear hk); (try clear hi); have hcz15_0 := vZ0 BK199; have hcz15_1 := vZ1 BK199; have hfz15_0 := kF BK199.out 0; have hfz15_1 := kF BK199.out 1) | ((with_reducible refine gC (f := 12) rfl ?_); refine goesL_ (some 16) rfl rfl Tryd.func12 kR rfl #[.agg #[.int .i64 a0_0, .slice A0_1 l0_1.length c0_1]] rfl sQ ?_; (with_reducible refine (laws_toPuzzle.calls k a0_0 _ _ l0_1 t201 t202 _ ?side1 ?side2 A7.out).mono ?_); (case side1 => repeat (first | exact (Kd.C_below HR0_1.out HB.out) | (with_reducible refine cA ?_ _) | (with_reducible refine cN ?_ _) | (with_reducible refine cD ?_))); (case side2 => exact HC0_1.out); rintro e w16 ⟨v203, rfl, ho0, hb⟩; refine ⟨_, rfl, ?_⟩; have HO204 := aM (Kd.R_lower ho0 (pZ bE)); replace BK199 := bB BK199 hb; replace HB := tB HB hb; (try clear hb); (try clear hb2); (try clear hk); (try clear hi); (try clear ho0); obtain ⟨Ao17, co17, eo17⟩ := Kd.R_slice HO204.out; subst eo17) | ((with_reducible refine gC (f := 11) rfl ?_); refine goesL_ (some 17) rfl rfl Tryd.func11 kR rfl #[.agg #[.int .i64 t201, .slice Ao17 t202.length co17]] rfl sQ ?_; (with_reducible refine (spec_PuzzleText.calls k t201 _ _ t202 t205 t206 _ ?side1 ?side2 A8.out).mono ?_); (case side1 => repeat (first | exact (rR HO204.out).2.2 | (with_reducible refine cA ?_ _) | (with_reducible refine cN ?_ _) | (with_reducible refine cD ?_))); (case side2 => exact (rR HO204.out).2.1); rintro e w18 ⟨rfl, hb⟩; refine ⟨_, rfl, ?_⟩; replace HO204 := aM (Kd.R_below (by (with_reducible repeat (first | apply rA | apply rN | apply rD)); exact HO204.out) hb); replace BK199 := bB BK199 hb; replace HB := tB HB hb; (try clear hb); (try clear hb2); (try clear hk); (try clear hi); have hcz19_0 := vZ0 BK199; have hcz19_1 := vZ1 BK199; have hfz19_0 := kF BK199.out 0; have hfz19_1 := kF BK199.out 1) | ((with_reducible refine gC (f := 12) rfl ?_); refine goesL_ (some 21) rfl rfl Tryd.func12 kR rfl #[.agg #[.int .i64 a0_0, .slice A0_1 l0_1.length c0_1]] rfl sQ ?_; (with_reducible refine (laws_toPuzzle.calls k a0_0 _ _ l0_1 t207 t208 _ ?side1 ?side2 A9.out).mono ?_); (case side1 => repeat (first | exact (Kd.C_below HR0_1.out HB.out) | (with_reducible refine cA ?_ _) | (with_reducible refine cN ?_ _) | (with_reducible refine cD ?_))); (case side2 => exact HC0_1.out); rintro e w20 ⟨v209, rfl, ho0, hb⟩; refine ⟨_, rfl, ?_⟩; have HO210 := aM (Kd.R_lower (Kd.R_new' ho0 (Kd.R_lt (by (with_reducible repeat (first | apply rA | apply rN | apply rD)); exact HO204.out))) (pZ bE)); replace HO204 := aM (Kd.R_elder' (by (with_reducible repeat (first | apply rA | apply rN | apply rD)); exact HO204.out) (Kd.R_base ho0) hb); replace BK199 := bB BK199 hb; replace HB := tB HB hb; (try clear hb); (try clear hb2); (try clear hk); (try clear hi); (try clear ho0)) | ((with_reducible refine gate_dst (N := 6) rfl ?_); refine bV 6 (cs := #[.int .i64 0, .slice none 0 0]) (t := 24) rfl rfl (by first | (go_simp; done) | (go_simp; rfl)) ?_; intro gb211 hg w21 hbox hb; have BK211 := hbox; have GW211 := gZ HB hg; have GE211 := gZ HB hg; have NB199_211 := nG BK199 hg; have NB211_199 := nH BK199 hg; replace HO204 := aM (Kd.R_below (by (with_reducible repeat (first | apply rA | apply rN | apply rD)); exact HO204.out) hb); replace HO210 := aM (Kd.R_below (by (with_reducible repeat (first | apply rA | apply rN | apply rD)); exact HO210.out) hb); replace BK199 := bB BK199 hb; replace HB := tB HB hb; clear hb hbox hg; have hnb22 := NB211_199.out; have hnc22 := NB199_211.out; have hcz23_0 := vZ0 BK211; have hcz23_1 := vZ1 BK211; have hfz23_0 := kF BK211.out 0; have hfz23_1 := kF BK211.out 1; obtain ⟨Ao24, co24, eo24⟩ := Kd.R_slice HO210.out; subst eo24) | ((with_reducible refine gC (f := 13) rfl ?_); refine goesL_ (some 24) rfl rfl Tryd.func13 kR rfl #[.agg #[.int .i64 t207, .slice Ao24 t208.length co24]] rfl sQ ?_; (with_reducible refine (impl_PuzzleText.calls k t207 _ _ t208 t212 t213 _ ?side1 ?side2 A10.out).mono ?_); (case side1 => refine (rR (e := 48) (base := w.heap.size) (ok := fun k_ => (True ∧ some k_ ≠ (.slice Ao17 t202.length co17 : Value).ownBlock)) (n := t208.length) (c := co24) ?_).2.2; exact (by (with_reducible repeat (first | apply rA | apply rN | apply rD)); exact (Kd.R_mono (Kd.R_far (p := ⟨gb211, 1, none⟩) (Kd.R_far (p := ⟨gb211, 0, none⟩) (Kd.R_types HO210.out BK211.out (by decide)) (fun _ hk => hk.2) (.int .i64 t207)) (fun _ hk => hk.2) (.slice Ao24 t208.length co24)) (fun _ h_ => h_.1)))); (case side2 => exact (rR HO210.out).2.1); rintro e w25 ⟨rfl, hb⟩; refine ⟨_, rfl, ?_⟩; replace HO204 := aM (Kd.R_below (by (with_reducible repeat (first | apply rA | apply rN | apply rD)); exact (Kd.R_mono (Kd.R_far (p := ⟨gb211, 1, none⟩) (Kd.R_far (p := ⟨gb211, 0, none⟩) (Kd.R_types HO204.out BK211.out (by decide)) (fun _ hk => hk.2) (.int .i64 t207)) (fun _ hk => hk.2) (.slice Ao24 t208.length co24)) (fun _ h_ => h_.1))) hb); replace HO210 := aM (Kd.R_below (by (with_reducible repeat (first | apply rA | apply rN | apply rD)); exact (Kd.R_mono (Kd.R_far (p := ⟨gb211, 1, none⟩) (Kd.R_far (p := ⟨gb211, 0, none⟩) (Kd.R_types HO210.out BK211.out (by decide)) (fun _ hk => hk.2) (.int .i64 t207)) (fun _ hk => hk.2) (.slice Ao24 t208.length co24)) (fun _ h_ => h_.1))) hb); replace BK199 := aM (blk_below (g := gb199) (o := .cells #[.int .i64 a0_0, .slice A0_1 l0_1.length c0_1] 32 (0, 0)) (fQ BK199) hb); replace BK211 := aM (blk_below (g := gb211) (o := .cells #[.int .i64 t207, .slice Ao24 t208.length co24] 24 (0, 0)) (fQ BK211) hb); replace HB := tB HB hb; (try clear hb); (try clear hb2); (try clear hk); (try clear hi)))
  (try simp only [Act.put, sI, sZ, sS])
  go_cut [34] (fun v34 wc => ∃ (kq : Nat) (x34_10 : Bool), v34 = .bool x34_10 ∧ Aside0 (laws_FnExactPuzzleText.j0 kq x34_10 a0_0 l0_1 t207 t208 = some r) ∧ Aside0 (kq ≤ k) ∧ Aside0 (Kd.R kd_impl_Clue 48 wc w.heap.size (fun _ => True) (.slice Ao24 t208.length co24) t208) ∧ Aside0 (wc.heap[gb199]? = some (.cells #[.int .i64 a0_0, (.slice A0_1 l0_1.length c0_1)] 32 (0, 0))) ∧ Aside0 (wc.heap[gb211]? = some (.cells #[.int .i64 t207, (.slice Ao24 t208.length co24)] 24 (0, 0))) ∧ Aside0 (Below w.heap.size w wc))
  case first =>
   have H := HC11.out; clear HC11
   by_cases c26 : t212.toList = t205.toList
   ·rw [if_pos c26] at H; have c26b0 : (t212.toList == t205.toList) = true := beq_iff_eq.mpr c26; have c26b1 : (t212.toList != t205.toList) = false := bne_eq_false_iff_eq.mpr c26; clear c26
    (first | rw [c26b0] | (simp only [i64_w, i32_w]; rw [c26b0]) | skip)
    have H' := aM H; clear H; go_wp2
    go_meet
    case rel => exact ⟨_, ((t213 != t206)), eQ, H', ⟨by first | omega | exact Nat.le_refl _⟩, ⟨by (with_reducible repeat (first | apply rA | apply rN | apply rD)); exact Kd.R_mono HO210.out (fun _ hk => trivial)⟩, ⟨gQ BK199⟩, ⟨gQ BK211⟩, ⟨bE⟩⟩
   ·rw [if_neg c26] at H; have c26b0 : (t212.toList == t205.toList) = false := beq_eq_false_iff_ne.mpr c26; have c26b1 : (t212.toList != t205.toList) = true := bne_iff_ne.mpr c26
    (first | rw [c26b0] | (simp only [i64_w, i32_w]; rw [c26b0]) | skip)
    have H' := aM H; clear H; go_wp2
    go_meet
    case rel => exact ⟨_, (true), eQ, H', ⟨by first | omega | exact Nat.le_refl _⟩, ⟨by (with_reducible repeat (first | apply rA | apply rN | apply rD)); exact Kd.R_mono HO210.out (fun _ hk => trivial)⟩, ⟨gQ BK199⟩, ⟨gQ BK211⟩, ⟨bE⟩⟩
  case rest =>
   clear HC11; (try clear c3); (try clear c3b0); (try clear hcz13_0); (try clear hcz13_1); (try clear hcz15_0); (try clear hcz15_1); (try clear hcz19_0); (try clear hcz19_1); (try clear hcz23_0); (try clear hcz23_1); (try clear hcz5_0); (try clear hcz5_1); (try clear hfz13_0); (try clear hfz13_1); (try clear hfz15_0); (try clear hfz15_1); (try clear hfz19_0); (try clear hfz19_1); (try clear hfz23_0); (try clear hfz23_1); (try clear hfz5_0); (try clear hfz5_1); obtain ⟨kq, x34_10, rfl, HA, HJ10, HO_212001, BK199, BK211, HB⟩ := hcut
   cases kq with
   | zero => exact absurd HA.out (by simp [laws_FnExactPuzzleText.j0])
   | succ kj10 =>
    have H := HA.out; clear HA
    simp only [laws_FnExactPuzzleText.j0] at H
    by_cases c27 : x34_10 = true
    ·subst c27; replace H := iT H; obtain rfl := Option.some.inj H; go_wp2
     go_ret
     exact ⟨wQ, bE⟩
    ·replace c27 := Bool.eq_false_iff.mpr c27; subst c27; replace H := iF H; replace H := bS H; obtain ⟨⟨t214, t215⟩, A28, H⟩ := H; replace H := bS H; obtain ⟨t218, A29, H⟩ := H
     by_cases c30 : t218 = true
     ·subst c30; replace H := iT H; obtain rfl := Option.some.inj H
      try go_wp2
      replace HO_212001 := aM (rD HO_212001.out); replace BK199 := aM (kD BK199.out); replace BK211 := aM (kD BK211.out); replace HB := aM (pD HB.out)
      refine start_ (n := 5) (S := fun w' => w'.cell? ⟨gb211, 0, none⟩ = some (.int .i64 t207) ∧ w'.cell? ⟨gb211, 1, none⟩ = some (.slice Ao24 t208.length co24) ∧ w'.cell? ⟨gb199, 0, none⟩ = some (.int .i64 a0_0) ∧ w'.cell? ⟨gb199, 1, none⟩ = some (.slice A0_1 l0_1.length c0_1)) (ds := []) (bA 5 0) kR rfl kR ⟨vZ0 BK211, vZ1 BK211, vZ0 BK199, vZ1 BK199⟩ (fun hHeld => ?_)
      generalize wc.drew = w31 at HO_212001 BK199 BK211 HB hHeld ⊢
      refine take_ (i := 0) (N := some 35) (v := ?_) (a' := ?_) (bA 5 1) rfl rfl kR (fun _ _ _ h => h) (Or.inl ⟨by rfl, ?_⟩) hHeld ?_ ?_
      rotate_left
      ·rintro w' ⟨s0, s1, s2, s3⟩
       go_simp
       with_reducible rfl
      rotate_left
      ·simp only [Act.put, sI, sZ, sS, i64_w, i32_w]
       rfl
      refine take_ (i := 1) (N := some 36) (v := ?_) (a' := ?_) (bA 5 3) rfl rfl kR (fun _ _ _ h => h) (Or.inl ⟨by rfl, ?_⟩) hHeld ?_ ?_
      rotate_left
      ·rintro w' ⟨s0, s1, s2, s3⟩
       go_simp
       with_reducible rfl
      rotate_left
      ·simp only [Act.put, sI, sZ, sS, i64_w, i32_w]
       rfl
      refine one_ (i := 2) (N := some 37) (bA 5 7) rfl rfl kR (by decide) (fun K hK => ?_)
      refine goes_ Tryd.func12 kR rfl #[.agg #[.int .i64 a0_0, .slice A0_1 l0_1.length c0_1]] (by rfl) rfl rfl sQ ?_
      with_reducible refine (laws_toPuzzle.calls kj10 a0_0 _ _ l0_1 t214 t215 _ ?side1 ?side2 A28.out).mono ?_
      (case side1 => repeat (first | exact (Kd.C_below HR0_1.out HB.out) | (with_reducible refine cA ?_ _) | (with_reducible refine cN ?_ _) | (with_reducible refine cD ?_)))
      (case side2 => exact HC0_1.out)
      rintro e w32 ⟨v216, rfl, ho0, hb⟩; refine ⟨_, rfl, ?_⟩; have HO217 := aM (Kd.R_lower (Kd.R_new' ho0 (Kd.R_lt (by (with_reducible repeat (first | apply rA | apply rN | apply rD)); exact HO_212001.out))) (pZ bE)); replace HO_212001 := aM (Kd.R_elder' (by (with_reducible repeat (first | apply rA | apply rN | apply rD)); exact HO_212001.out) (Kd.R_base ho0) hb); replace BK199 := bB BK199 hb; replace BK211 := bB BK211 hb; replace HB := tB HB hb
      (try clear hb); (try clear hb2); (try clear hk); (try clear hi); (try clear ho0); obtain ⟨Ao33, co33, eo33⟩ := Kd.R_slice HO217.out
      (first | subst eo33 | (injection eo33 with f1_ f2_ f3_; have f4_ := f1_.symm; have f5_ := f3_.symm; clear f1_ f2_ f3_; subst f4_; subst f5_))
      refine hK.out _ _ ⟨vZ0 BK211, vZ1 BK211, vZ0 BK199, vZ1 BK199⟩ (fun hHeld => ?_)
      clear hK K
      refine nU ?_
      refine one_ (i := 3) (N := some 38) (bA 5 15) rfl rfl kR (by decide) (fun K hK => ?_)
      refine goes_ Tryd.func7 kR rfl #[.agg #[.int .i64 t207, .slice Ao24 t208.length co24], .agg #[.int .i64 t214, .slice Ao33 t215.length co33]] (by rfl) rfl rfl sQ ?_
      with_reducible refine (laws_eqPuzzle.calls kj10 t207 _ _ t208 t214 _ _ t215 true _ ?side1 ?side2 ?side3 ?side4 A29.out).mono ?_
      (case side1 => repeat (first | exact (rR HO_212001.out).2.2 | (with_reducible refine cA ?_ _) | (with_reducible refine cN ?_ _) | (with_reducible refine cD ?_)))
      (case side2 => exact (rR HO_212001.out).2.1)
      (case side3 => repeat (first | exact (rR HO217.out).2.2 | (with_reducible refine cA ?_ _) | (with_reducible refine cN ?_ _) | (with_reducible refine cD ?_)))
      (case side4 => exact (rR HO217.out).2.1)
      rintro e w34 ⟨rfl, hb⟩; refine ⟨_, rfl, ?_⟩; replace HO_212001 := aM (Kd.R_below (by (with_reducible repeat (first | apply rA | apply rN | apply rD)); exact HO_212001.out) hb); replace HO217 := aM (Kd.R_below (by (with_reducible repeat (first | apply rA | apply rN | apply rD)); exact HO217.out) hb); replace BK199 := bB BK199 hb; replace BK211 := bB BK211 hb; replace HB := tB HB hb
      (try clear hb); (try clear hb2); (try clear hk); (try clear hi)
      refine hK.out _ _ ⟨vZ0 BK211, vZ1 BK211, vZ0 BK199, vZ1 BK199⟩ (fun hHeld => ?_)
      clear hK K
      refine nU ?_
      refine pure_ (i := 4) (N := some 39) (v := ?_) (a' := ?_) (bA 5 31) rfl rfl kR (fun _ _ _ h => h) (Or.inl ⟨by rfl, ?_⟩) ?_ ?_
      rotate_left
      ·intro w'
       go_simp
       with_reducible rfl
      rotate_left
      ·simp only [Act.put, sI, sZ, sS, i64_w, i32_w]
       rfl
      refine done_ kR ?_
      try go_wp2
      go_ret
      exact ⟨wQ, bE⟩
     ·replace c30 := Bool.eq_false_iff.mpr c30; subst c30; replace H := iF H; obtain rfl := Option.some.inj H
      try go_wp2
      replace HO_212001 := aM (rD HO_212001.out); replace BK199 := aM (kD BK199.out); replace BK211 := aM (kD BK211.out); replace HB := aM (pD HB.out)
      refine start_ (n := 5) (S := fun w' => w'.cell? ⟨gb211, 0, none⟩ = some (.int .i64 t207) ∧ w'.cell? ⟨gb211, 1, none⟩ = some (.slice Ao24 t208.length co24) ∧ w'.cell? ⟨gb199, 0, none⟩ = some (.int .i64 a0_0) ∧ w'.cell? ⟨gb199, 1, none⟩ = some (.slice A0_1 l0_1.length c0_1)) (ds := []) (bA 5 0) kR rfl kR ⟨vZ0 BK211, vZ1 BK211, vZ0 BK199, vZ1 BK199⟩ (fun hHeld => ?_)
      generalize wc.drew = w35 at HO_212001 BK199 BK211 HB hHeld ⊢
      refine take_ (i := 0) (N := some 35) (v := ?_) (a' := ?_) (bA 5 1) rfl rfl kR (fun _ _ _ h => h) (Or.inl ⟨by rfl, ?_⟩) hHeld ?_ ?_
      rotate_left
      ·rintro w' ⟨s0, s1, s2, s3⟩
       go_simp
       with_reducible rfl
      rotate_left
      ·simp only [Act.put, sI, sZ, sS, i64_w, i32_w]
       rfl
      refine take_ (i := 1) (N := some 36) (v := ?_) (a' := ?_) (bA 5 3) rfl rfl kR (fun _ _ _ h => h) (Or.inl ⟨by rfl, ?_⟩) hHeld ?_ ?_
      rotate_left
      ·rintro w' ⟨s0, s1, s2, s3⟩
       go_simp
       with_reducible rfl
      rotate_left
      ·simp only [Act.put, sI, sZ, sS, i64_w, i32_w]
       rfl
      refine one_ (i := 2) (N := some 37) (bA 5 7) rfl rfl kR (by decide) (fun K hK => ?_)
      refine goes_ Tryd.func12 kR rfl #[.agg #[.int .i64 a0_0, .slice A0_1 l0_1.length c0_1]] (by rfl) rfl rfl sQ ?_
      with_reducible refine (laws_toPuzzle.calls kj10 a0_0 _ _ l0_1 t214 t215 _ ?side1 ?side2 A28.out).mono ?_
      (case side1 => repeat (first | exact (Kd.C_below HR0_1.out HB.out) | (with_reducible refine cA ?_ _) | (with_reducible refine cN ?_ _) | (with_reducible refine cD ?_)))
      (case side2 => exact HC0_1.out)
      rintro e w36 ⟨v216, rfl, ho0, hb⟩; refine ⟨_, rfl, ?_⟩; have HO217 := aM (Kd.R_lower (Kd.R_new' ho0 (Kd.R_lt (by (with_reducible repeat (first | apply rA | apply rN | apply rD)); exact HO_212001.out))) (pZ bE)); replace HO_212001 := aM (Kd.R_elder' (by (with_reducible repeat (first | apply rA | apply rN | apply rD)); exact HO_212001.out) (Kd.R_base ho0) hb); replace BK199 := bB BK199 hb; replace BK211 := bB BK211 hb; replace HB := tB HB hb
      (try clear hb); (try clear hb2); (try clear hk); (try clear hi); (try clear ho0); obtain ⟨Ao37, co37, eo37⟩ := Kd.R_slice HO217.out
      (first | subst eo37 | (injection eo37 with f1_ f2_ f3_; have f4_ := f1_.symm; have f5_ := f3_.symm; clear f1_ f2_ f3_; subst f4_; subst f5_))
      refine hK.out _ _ ⟨vZ0 BK211, vZ1 BK211, vZ0 BK199, vZ1 BK199⟩ (fun hHeld => ?_)
      clear hK K
      refine nU ?_
      refine one_ (i := 3) (N := some 38) (bA 5 15) rfl rfl kR (by decide) (fun K hK => ?_)
      refine goes_ Tryd.func7 kR rfl #[.agg #[.int .i64 t207, .slice Ao24 t208.length co24], .agg #[.int .i64 t214, .slice Ao37 t215.length co37]] (by rfl) rfl rfl sQ ?_
      with_reducible refine (laws_eqPuzzle.calls kj10 t207 _ _ t208 t214 _ _ t215 false _ ?side1 ?side2 ?side3 ?side4 A29.out).mono ?_
      (case side1 => repeat (first | exact (rR HO_212001.out).2.2 | (with_reducible refine cA ?_ _) | (with_reducible refine cN ?_ _) | (with_reducible refine cD ?_)))
      (case side2 => exact (rR HO_212001.out).2.1)
      (case side3 => repeat (first | exact (rR HO217.out).2.2 | (with_reducible refine cA ?_ _) | (with_reducible refine cN ?_ _) | (with_reducible refine cD ?_)))
      (case side4 => exact (rR HO217.out).2.1)
      rintro e w38 ⟨rfl, hb⟩; refine ⟨_, rfl, ?_⟩; replace HO_212001 := aM (Kd.R_below (by (with_reducible repeat (first | apply rA | apply rN | apply rD)); exact HO_212001.out) hb); replace HO217 := aM (Kd.R_below (by (with_reducible repeat (first | apply rA | apply rN | apply rD)); exact HO217.out) hb); replace BK199 := bB BK199 hb; replace BK211 := bB BK211 hb; replace HB := tB HB hb
      (try clear hb); (try clear hb2); (try clear hk); (try clear hi)
      refine hK.out _ _ ⟨vZ0 BK211, vZ1 BK211, vZ0 BK199, vZ1 BK199⟩ (fun hHeld => ?_)
      clear hK K
      refine nU ?_
      refine pure_ (i := 4) (N := some 39) (v := ?_) (a' := ?_) (bA 5 31) rfl rfl kR (fun _ _ _ h => h) (Or.inl ⟨by rfl, ?_⟩) ?_ ?_
      rotate_left
      ·intro w'
       go_simp
       with_reducible rfl
      rotate_left
      ·simp only [Act.put, sI, sZ, sS, i64_w, i32_w]
       rfl
      refine done_ kR ?_
      try go_wp2
      go_ret
      exact ⟨wQ, bE⟩

def laws_FnExactPuzzleText.Pure : Prop := ∀ (a0_0 : Int) (l0_1 : List (S_laws_Clue)), (Lit.int .i64 a0_0).wf = true → OkL (fun y : S_laws_Clue => (okInt .i64) y.f0 ∧ (okInt .i64) y.f1 ∧ (okInt .i64) y.f2 ∧ (okInt .i64) y.f3) l0_1 → ∃ k, laws_FnExactPuzzleText.f k a0_0 l0_1 = some true

end Go.Proofs.YtoeclfihlhmnpaaDoor.X
