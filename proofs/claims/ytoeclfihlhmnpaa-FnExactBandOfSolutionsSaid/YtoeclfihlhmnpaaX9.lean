-- thin
-- short
-- compact
import Derived.Test.YtoeclfihlhmnpaaXA
import Derived.Test.YtoeclfihlhmnpaaX0
import Derived.Test.YtoeclfihlhmnpaaX7
import Derived.Test.YtoeclfihlhmnpaaX8
import Derived.Test.YtoeclfihlhmnpaaXW3
namespace Go.Proofs.Ytoeclfihlhmnpaa.X
open Go.RowKit Go.Proofs.Ytoeclfihlhmnpaa.XW Go.Proofs.YtoeclfihlhmnpaaW.PrintWords Go.Proofs.YtoeclfihlhmnpaaW.PrintLast Go.Proofs.YtoeclfihlhmnpaaW.PrintMore
attribute [local go_sem] max2_int min2_int max_two min_two max_three min_three max_four min_four   -- for this text's walks alone
set_option linter.unusedVariables false
set_option linter.unusedSimpArgs false

def impl_IsPuzzle.f (k : Nat) (a0_0 : Int) (l0_1 : List (S_impl_Clue)) : Option (Bool) := (impl_isSide.f a0_0).bind fun t261 => (if t261 = true then (if (l0_1.length : Int) ≤ 6 then ((slices_ContainsFunc_impl_Clue_at_impl_IsPuzzle_1.f k l0_1 a0_0 l0_1).bind fun t262 => (some (!t262))) else (some false)) else (some false))
theorem impl_IsPuzzle.mono : ∀ a0 a1 k, LeO (impl_IsPuzzle.f k a0 a1) (impl_IsPuzzle.f (k + 1) a0 a1) := by
 intro a0 a1 k
 unfold impl_IsPuzzle.f
 repeat' first | (with_reducible exact slices_ContainsFunc_impl_Clue_at_impl_IsPuzzle_1.mono _ _ _ _) | (with_reducible exact LeO.refl _) | (with_reducible exact LeO.none _) | (with_reducible refine LeO.ite ?_ ?_) | (with_reducible refine LeO.bind ?_ (fun _ => ?_)) | exact slices_ContainsFunc_impl_Clue_at_impl_IsPuzzle_1.mono _ _ _ _ | exact LeO.none _ | refine LeO.ite ?_ ?_ | refine LeO.bind ?_ (fun _ => ?_)
set_option maxHeartbeats 8000000 in
set_option maxRecDepth 100000 in
theorem impl_IsPuzzle.calls (k : Nat) (a0_0 : Int) (A0_1 : Option Addr) (c0_1 : Nat) (l0_1 : List (S_impl_Clue)) (r : Bool) (w : World) (hr0_1 : Kd.C kd_impl_Clue w A0_1 l0_1.length l0_1) (hc0_1 : l0_1.length ≤ c0_1) (h : impl_IsPuzzle.f k a0_0 l0_1 = some r) :
  Calls Try.prog 19 #[.agg #[.int .i64 a0_0, .slice A0_1 l0_1.length c0_1]] w fun e w' => e = .returned (.bool r) ∧ Below w.heap.size w w' := by
 have hu31 := Try.underlying31; have HR0_1 := aM hr0_1; have HC0_1 := aM hc0_1; clear hr0_1 hc0_1; have HB := aM (Below.refl w.heap.size w)
 unfold impl_IsPuzzle.f at h; have H := h; clear h
 replace H := bS H; obtain ⟨t261, A2, H⟩ := H
 by_cases c3 : t261 = true
 ·subst c3; replace H := iT H
  by_cases c4 : (l0_1.length : Int) ≤ 6
  ·rw [if_pos c4] at H; have c4b0 := dE c4; have c4b1 : decide (l0_1.length ≤ 6) = true := dE (by omega)
   clear c4; replace H := bS H; obtain ⟨t262, A5, H⟩ := H; obtain rfl := Option.some.inj H
   go_enter Try.func19, Try.ntmps19
   go_wp2_with (first | ((with_reducible refine gate_dst (N := 1) rfl ?_); (try (refine gate_guard (by rfl) ?_; dsimp only)); refine bV 1 (cs := #[.int .i64 a0_0, .slice A0_1 l0_1.length c0_1]) (t := 31) rfl rfl (by first | (go_simp; done) | (go_simp; rfl)) ?_; intro gb260 hg w6 hbox hb; have BK260 := hbox; have GW260 := gZ HB hg; have GE260 := gZ HB hg; replace HB := tB HB hb; clear hb hbox hg; have hcz7_0 := vZ0 BK260; have hcz7_1 := vZ1 BK260; have hfz7_0 := kF BK260.out 0; have hfz7_1 := kF BK260.out 1) | ((with_reducible refine gC (f := 62) rfl ?_); refine goesL_ (some 5) rfl rfl Try.func62 kR rfl #[.int .i64 a0_0] rfl sQ ?_; (with_reducible refine (impl_isSide.calls a0_0 true _ A2.out).mono ?_); rintro e w' ⟨rfl, ⟨nd, rfl⟩⟩; refine ⟨_, rfl, ?_⟩) | (go_at_call 63; (with_reducible refine (slices_ContainsFunc_impl_Clue_at_impl_IsPuzzle_1.calls k _ _ l0_1 gb260 a0_0 A0_1 c0_1 l0_1 t262 _ ?side1 ?side2 ?side3 ?side4 ?side5 A5.out).mono ?_); (case side1 => repeat (first | exact (Kd.C_below HR0_1.out bE) | (with_reducible refine cA ?_ _) | (with_reducible refine cN ?_ _) | (with_reducible refine cD ?_))); (case side2 => exact HC0_1.out); (case side3 => repeat (first | exact (Kd.C_below HR0_1.out bE) | (with_reducible refine cA ?_ _) | (with_reducible refine cN ?_ _) | (with_reducible refine cD ?_))); (case side4 => exact HC0_1.out); (case side5 => exact (gQ BK260)); rintro e w8 ⟨rfl, hb⟩; replace BK260 := bB BK260 hb; replace HB := tB HB hb; (try clear hb); (try clear hb2); (try clear hk); (try clear hi)))
   go_ret
   exact ⟨wQ, bE⟩
  ·rw [if_neg c4] at H; have c4b0 := decide_eq_false c4; have c4b1 : decide (l0_1.length ≤ 6) = false := decide_eq_false (by omega)
   clear c4; obtain rfl := Option.some.inj H
   go_enter Try.func19, Try.ntmps19
   go_wp2_with (first | ((with_reducible refine gate_dst (N := 1) rfl ?_); (try (refine gate_guard (by rfl) ?_; dsimp only)); refine bV 1 (cs := #[.int .i64 a0_0, .slice A0_1 l0_1.length c0_1]) (t := 31) rfl rfl (by first | (go_simp; done) | (go_simp; rfl)) ?_; intro gb260 hg w9 hbox hb; have BK260 := hbox; have GW260 := gZ HB hg; have GE260 := gZ HB hg; replace HB := tB HB hb; clear hb hbox hg; have hcz10_0 := vZ0 BK260; have hcz10_1 := vZ1 BK260; have hfz10_0 := kF BK260.out 0; have hfz10_1 := kF BK260.out 1) | ((with_reducible refine gC (f := 62) rfl ?_); refine goesL_ (some 5) rfl rfl Try.func62 kR rfl #[.int .i64 a0_0] rfl sQ ?_; (with_reducible refine (impl_isSide.calls a0_0 true _ A2.out).mono ?_); rintro e w' ⟨rfl, ⟨nd, rfl⟩⟩; refine ⟨_, rfl, ?_⟩))
   go_ret
   exact ⟨wQ, bE⟩
 ·replace c3 := Bool.eq_false_iff.mpr c3; subst c3; replace H := iF H; obtain rfl := Option.some.inj H
  go_enter Try.func19, Try.ntmps19
  go_wp2_with (first | ((with_reducible refine gate_dst (N := 1) rfl ?_); (try (refine gate_guard (by rfl) ?_; dsimp only)); refine bV 1 (cs := #[.int .i64 a0_0, .slice A0_1 l0_1.length c0_1]) (t := 31) rfl rfl (by first | (go_simp; done) | (go_simp; rfl)) ?_; intro gb260 hg w11 hbox hb; have BK260 := hbox; have GW260 := gZ HB hg; have GE260 := gZ HB hg; replace HB := tB HB hb; clear hb hbox hg; have hcz12_0 := vZ0 BK260; have hcz12_1 := vZ1 BK260; have hfz12_0 := kF BK260.out 0; have hfz12_1 := kF BK260.out 1) | ((with_reducible refine gC (f := 62) rfl ?_); refine goesL_ (some 5) rfl rfl Try.func62 kR rfl #[.int .i64 a0_0] rfl sQ ?_; (with_reducible refine (impl_isSide.calls a0_0 false _ A2.out).mono ?_); rintro e w' ⟨rfl, ⟨nd, rfl⟩⟩; refine ⟨_, rfl, ?_⟩))
  go_ret
  exact ⟨wQ, bE⟩

def slices_Clone_impl_Peg.f (l0 : List (S_impl_Peg)) : Option ((List (S_impl_Peg))) := (some (([] : List (S_impl_Peg)) : List (S_impl_Peg))).bind fun y263 => (if y263.length + l0.length < 8796093022208 then (some (y263 ++ l0)) else (none))
set_option maxHeartbeats 8000000 in
set_option maxRecDepth 100000 in
theorem slices_Clone_impl_Peg.calls (A0 : Option Addr) (c0 : Nat) (l0 : List (S_impl_Peg)) (r : List (S_impl_Peg)) (w : World) (hr0 : Kd.C kd_impl_Peg w A0 l0.length l0) (hc0 : l0.length ≤ c0) (h : slices_Clone_impl_Peg.f l0 = some r) :
  Calls Try.prog 72 #[.slice A0 l0.length c0] w fun e w' => ∃ v0_ : Value, e = .returned (v0_) ∧ Kd.R kd_impl_Peg 41 w' w.heap.size (fun _ => True) v0_ r ∧ Below w.heap.size w w' := by
 by_cases hA_ : A0 = none
 ·subst hA_; have hn_ : l0 = [] := by
   rcases Nat.eq_zero_or_pos l0.length with h0_ | h0_
   ·exact List.eq_nil_of_length_eq_zero h0_
   ·obtain ⟨ad_, e_, _⟩ := hr0.2.2 h0_
    cases e_
  subst hn_; have hr_ : r = [] := by
   unfold slices_Clone_impl_Peg.f at h
   simp at h
   first | exact h | exact h.symm
  subst hr_; have hq_ := eq_nil (P := Try.prog) 26 41 Try.underlying26 none c0
  simp only [Option.isNone_none] at hq_
  go_enter Try.func72, Try.ntmps72
  go_wp2
  go_ret
  exact ⟨_, rfl, Kd.R_nil _ _ _ _ _, Below.refl _ _⟩
 obtain ⟨ad_, rfl⟩ := Option.ne_none_iff_exists'.1 hA_; have hq_ := eq_nil (P := Try.prog) 26 41 Try.underlying26 (some ad_) c0
 simp only [Option.isNone_some] at hq_
 have HR0 := aM hr0; have HC0 := aM hc0; clear hr0 hc0; have HB := aM (Below.refl w.heap.size w)
 unfold slices_Clone_impl_Peg.f at h; have H := h; clear h
 replace H := lS H; obtain ⟨y263, Ny263, H⟩ := H; replace H := iN H; obtain ⟨c2, H⟩ := H; have LMc2 := aM c2; clear c2; obtain ⟨y266, hy266⟩ : ∃ y_ : List (S_impl_Peg), y_ = (y263 ++ l0) := ⟨_, rfl⟩; rw [← hy266] at H; have Ny266 := aM hy266; clear hy266; obtain rfl := Option.some.inj H
 go_enter Try.func72, Try.ntmps72
 go_wp2_with (first | ((with_reducible refine gate_dst (N := 5) rfl ?_); refine Kd.R_lit kd_impl_Peg _ 41 ?hg (N := 5) ?hd (xs := ([] : List (S_impl_Peg))) (inner := []) (ok := fun _ => True) (okp := fun _ => True) ?hr ?hp (fun _ hk => hk) trivial (Below.refl _ _) (Nat.le_refl _) (by simp) ?_; (case hd => rfl); (case hg => rfl); (case hr => first | (go_simp; done) | (go_simp; rfl)); (case hp => exact (Reps.none _ _)); intro v264 w3 ho4 hb hg_ hnew_; clear hg_ hnew_; (first | rw [← Ny263.out] at ho4 | (simp only [Int.reduceToNat] at ho4; rw [← Ny263.out] at ho4)); have HO265 := aM (Kd.R_lower ho4 (pZ bQ)); replace HB := tB HB hb; clear hb ho4) | ((with_reducible refine gate_builtin (b := .append) (xs := #[.tmp 5, .tmp 6]) rfl ?_); at_builtin; refine Kd.R_append_rows kd_impl_Peg (w0 := w) w.heap.size rfl (.tmp 5) (.tmp 6) 26 41 (.agg #[(.int .i64 0), (.int .i64 0)]) 16 rfl Try.underlying26 info41 rfl (by decide) (by omega) v264 y263 l0 _ _ _ (fun _ => True) (fun _ => False) rfl rfl ?aO ?aR (fun _ _ h => h) (fun _ h => h.elim) ?aF ?aB ?aS ?aL ?_; (case aR => repeat (first | exact (Kd.C_below HR0.out HB.out) | (with_reducible refine cA ?_ _) | (with_reducible refine cN ?_ _) | (with_reducible refine cD ?_))); (case aB => exact bQ); (case aF => exact (fun _ _ => trivial)); (case aO => exact (by (with_reducible repeat (first | apply rA | apply rN | apply rD)); exact HO265.out)); (case aS => exact (pZ bQ)); (case aL => have := LMc2.out; omega); intro v267 w5 ho hb hg hat; rw [← Ny266.out] at ho; have n0_ := aM (hb); have n1_ := aM (ho); clear HB; clear HO265; have HB := n0_; have HO268 := n1_; clear n0_ n1_; clear ho hb hg hat))
 go_ret
 exact ⟨_, by first | rfl | (simp [errW_none, errW_some] <;> rfl) | (simp [*, errW_none, errW_some] <;> rfl), by (with_reducible repeat (first | apply rA | apply rN | apply rD)); exact HO268.out, bQ⟩
-- NOT PRINTED: function 114 (slices_IndexFunc_impl_Peg)

-- NOT PRINTED: function 98 (slices_DeleteFunc_impl_Peg)

mutual
def impl_board.l0 : Nat → Int → List (S_impl_Peg) → Int → Int → Option ((List (S_impl_Peg)))
 | 0, _, _, _, _ => none
 | k + 1, x1, x5, x9, x10 => if x10 < x9 then (impl_board.l1 k x1 x5 x10 x9 x10 x1 0) else (some x5)
def impl_board.l1 : Nat → Int → List (S_impl_Peg) → Int → Int → Int → Int → Int → Option ((List (S_impl_Peg)))
 | 0, _, _, _, _, _, _, _ => none
 | k + 1, x1, x5, x6, x9, x10, x13, x14 => if x14 < x13 then (if x5.length < 8796093022208 then (impl_board.l1 k x1 (x5 ++ [(⟨x6, x14⟩ : S_impl_Peg)]) x6 x9 x10 x13 (wrap64 (x14 + 1))) else (none)) else (impl_board.l0 k x1 x5 x9 (wrap64 (x10 + 1)))
end
def impl_board.f (k : Nat) (a0 : Int) (a1 : Int) : Option ((List (S_impl_Peg))) := impl_board.l0 k a1 (([] : List (S_impl_Peg))) a0 0
theorem impl_board.mono_l : ∀ k, (∀ y0 y1 y2 y3, LeO (impl_board.l0 k y0 y1 y2 y3) (impl_board.l0 (k + 1) y0 y1 y2 y3)) ∧ (∀ y0 y1 y2 y3 y4 y5 y6, LeO (impl_board.l1 k y0 y1 y2 y3 y4 y5 y6) (impl_board.l1 (k + 1) y0 y1 y2 y3 y4 y5 y6))
 | 0 => ⟨fun _ _ _ _ r h => by simp [impl_board.l0] at h, fun _ _ _ _ _ _ _ r h => by simp [impl_board.l1] at h⟩
 | k + 1 => by
  obtain ⟨ih0, ih1⟩ := impl_board.mono_l k
  refine ⟨?_, ?_⟩ <;> intros <;> (first | unfold impl_board.l0 | unfold impl_board.l1) <;> repeat' first | (with_reducible exact ih0 _ _ _ _) | (with_reducible exact ih1 _ _ _ _ _ _ _) | (with_reducible exact LeO.refl _) | (with_reducible exact LeO.none _) | (with_reducible refine LeO.ite ?_ ?_) | (with_reducible refine LeO.bind ?_ (fun _ => ?_)) | exact ih0 _ _ _ _ | exact ih1 _ _ _ _ _ _ _ | exact LeO.none _ | refine LeO.ite ?_ ?_ | refine LeO.bind ?_ (fun _ => ?_)
theorem impl_board.mono : ∀ a0 a1 k, LeO (impl_board.f k a0 a1) (impl_board.f (k + 1) a0 a1) := by
 intro a0 a1 k
 obtain ⟨ih0, ih1⟩ := impl_board.mono_l k
 unfold impl_board.f
 repeat' first | (with_reducible exact ih0 _ _ _ _) | (with_reducible exact ih1 _ _ _ _ _ _ _) | (with_reducible exact LeO.refl _) | (with_reducible exact LeO.none _) | (with_reducible refine LeO.ite ?_ ?_) | (with_reducible refine LeO.bind ?_ (fun _ => ?_)) | exact ih0 _ _ _ _ | exact ih1 _ _ _ _ _ _ _ | exact LeO.none _ | refine LeO.ite ?_ ?_ | refine LeO.bind ?_ (fun _ => ?_)
set_option maxHeartbeats 8000000 in
set_option maxRecDepth 100000 in
theorem impl_board.calls (k : Nat) (a0 : Int) (a1 : Int) (r : List (S_impl_Peg)) (w : World) (h : impl_board.f k a0 a1 = some r) :
  Calls Try.prog 99 #[.int .i64 a0, .int .i64 a1] w fun e w' => ∃ v0_ : Value, e = .returned (v0_) ∧ Kd.R kd_impl_Peg 41 w' w.heap.size (fun _ => True) v0_ r ∧ Below w.heap.size w w' := by
 have hu41 := Try.underlying41; have HB := aM (Below.refl w.heap.size w)
 unfold impl_board.f at h; have H := h; clear h
 obtain ⟨y269, hy269⟩ : ∃ y_ : List (S_impl_Peg), y_ = (([] : List (S_impl_Peg))) := ⟨_, rfl⟩; rw [← hy269] at H; have Ny269 := aM hy269; clear hy269; have H' := aM H; clear H
 go_enter Try.func99, Try.ntmps99
 go_wp2_with (first | ((with_reducible refine gate_dst (N := 8) rfl ?_); refine Kd.R_lit kd_impl_Peg _ 41 ?hg (N := 8) ?hd (xs := ([] : List (S_impl_Peg))) (inner := []) (ok := fun _ => True) (okp := fun _ => True) ?hr ?hp (fun _ hk => hk) trivial (Below.refl _ _) (Nat.le_refl _) (by simp) ?_; (case hd => rfl); (case hg => rfl); (case hr => first | (go_simp; done) | (go_simp; rfl)); (case hp => exact (Reps.none _ _)); intro v270 w3 ho4 hb hg_ hnew_; clear hg_ hnew_; (first | rw [← Ny269.out] at ho4 | (simp only [Int.reduceToNat] at ho4; rw [← Ny269.out] at ho4)); have HO271 := aM (Kd.R_lower ho4 (pZ bQ)); replace HB := tB HB hb; clear hb ho4))
 go_loopg [5, 10] k (fun kq v5 v10 w' => ∃ (x5_1 : List (S_impl_Peg)) (x10_1 : Int), v10 = .int .i64 x10_1 ∧ Aside0 (impl_board.l0 kq a1 x5_1 a0 x10_1 = some r) ∧ Aside0 (kq ≤ k) ∧ Aside0 (Kd.R kd_impl_Peg 41 w' w.heap.size (fun _ => True) v5 x5_1) ∧ Aside0 (Below w.heap.size w w'))
 case atStart => exact ⟨(y269), (0), eQ, H', ⟨Nat.le_refl _⟩, ⟨by (with_reducible repeat (first | apply rA | apply rN | apply rD)); exact HO271.out⟩, ⟨bQ⟩⟩
 case round =>
  clear H'; obtain ⟨x5_1, x10_1, rfl, HA, HK1, HO_5, HB⟩ := hrel
  cases gk with
  | zero => exact absurd HA.out (by simp [impl_board.l0])
  | succ k1 =>
   have H := HA.out; clear HA
   simp only [impl_board.l0] at H
   by_cases c5 : x10_1 < a0
   ·rw [if_pos c5] at H; have c5b0 := dE c5; clear c5; have H' := aM H; clear H; go_wp2
    go_loopg [5, 14] k1 (fun kq v5 v14 w' => ∃ (x5_2 : List (S_impl_Peg)) (x14_2 : Int), v14 = .int .i64 x14_2 ∧ Aside0 (impl_board.l1 kq a1 x5_2 x10_1 a0 x10_1 a1 x14_2 = some r) ∧ Aside0 (kq ≤ k1) ∧ Aside0 (Kd.R kd_impl_Peg 41 w' w.heap.size (fun _ => True) v5 x5_2) ∧ Aside0 (Below w.heap.size w w'))
    case atStart => exact ⟨(x5_1), (0), eQ, H', ⟨Nat.le_refl _⟩, ⟨by (with_reducible repeat (first | apply rA | apply rN | apply rD)); exact HO_5.out⟩, ⟨bQ⟩⟩
    case round =>
     clear H'; (try clear c5); (try clear c5b0); obtain ⟨x5_2, x14_2, rfl, HA, HK2, HO_5, HB⟩ := hrel
     cases gk with
     | zero => exact absurd HA.out (by simp [impl_board.l1])
     | succ k2 =>
      have H := HA.out; clear HA
      simp only [impl_board.l1] at H
      by_cases c6 : x14_2 < a1
      ·rw [if_pos c6] at H; have c6b0 := dE c6; clear c6; replace H := iN H; obtain ⟨c7, H⟩ := H; have LMc7 := aM c7; clear c7; obtain ⟨y272, hy272⟩ : ∃ y_ : List (S_impl_Peg), y_ = (x5_2 ++ [(⟨x10_1, x14_2⟩ : S_impl_Peg)]) := ⟨_, rfl⟩; rw [← hy272] at H; have Ny272 := aM hy272; clear hy272; have H' := aM H; clear H
       go_wp2_with (first | ((with_reducible refine gate_builtin (b := .append) (xs := #[.tmp 17, .tmp 21]) rfl ?_); at_builtin; refine Kd.R_append kd_impl_Peg (w0 := w) w.heap.size rfl (.tmp 17) (.tmp 21) 26 41 (.agg #[(.int .i64 0), (.int .i64 0)]) 16 rfl Try.underlying26 info41 rfl (by decide) (by omega) u5 x5_2 (⟨x10_1, x14_2⟩ : S_impl_Peg) [.int .i64 x10_1, .int .i64 x14_2] (fun _ => True) (fun _ => False) rfl rfl ?aP (fun _ hk => hk.elim) ?aF ?aO ?aB ?aS ?aL ?_; (case aP => exact kd_impl_Peg_mkM _ _ _ (⟨x10_1, x14_2⟩ : S_impl_Peg)); (case aB => exact bQ); (case aF => exact (fun _ _ => trivial)); (case aO => exact (by (with_reducible repeat (first | apply rA | apply rN | apply rD)); exact HO_5.out)); (case aS => exact (pZ bQ)); (case aL => have := LMc7.out; omega); intro v273 w8 ho hb hg hat; rw [← Ny272.out] at ho; have n0_ := aM (hb); have n1_ := aM (ho); clear HB; clear HO_5; have HB := n0_; have HO274 := n1_; clear n0_ n1_; clear ho hb hg hat))
       go_roundg k2
       case measure => have := HK1.out; have := HK2.out; omega
       case rel => exact ⟨(y272), (wrap64 (x14_2 + 1)), eQ, H', ⟨by have := HK1.out; have := HK2.out; omega⟩, ⟨by (with_reducible repeat (first | apply rA | apply rN | apply rD)); exact HO274.out⟩, ⟨bQ⟩⟩
      ·rw [if_neg c6] at H; have c6b0 := decide_eq_false c6; clear c6; have H' := aM H; clear H; go_wp2
       go_roundg k2
       case measure => have := HK1.out; have := HK2.out; omega
       case rel => exact ⟨(x5_2), (wrap64 (x10_1 + 1)), eQ, H', ⟨by have := HK1.out; have := HK2.out; omega⟩, ⟨by (with_reducible repeat (first | apply rA | apply rN | apply rD)); exact HO_5.out⟩, ⟨bQ⟩⟩
   ·rw [if_neg c5] at H; have c5b0 := decide_eq_false c5; clear c5; obtain rfl := Option.some.inj H; go_wp2
    go_ret
    exact ⟨_, by first | rfl | (simp [errW_none, errW_some] <;> rfl) | (simp [*, errW_none, errW_some] <;> rfl), by (with_reducible repeat (first | apply rA | apply rN | apply rD)); exact HO_5.out, bQ⟩

def impl_cross.f (a0_0 : Int) (a0_1 : Int) (a1_0 : Int) (a1_1 : Int) : Option (Int) := some (wrap64 ((wrap64 (a0_0 * a1_1)) - (wrap64 (a0_1 * a1_0))))
set_option maxHeartbeats 8000000 in
set_option maxRecDepth 100000 in
theorem impl_cross.calls (a0_0 : Int) (a0_1 : Int) (a1_0 : Int) (a1_1 : Int) (r : Int) (w : World) (h : impl_cross.f a0_0 a0_1 a1_0 a1_1 = some r) :
  Calls Try.prog 91 #[.agg #[.int .i64 a0_0, .int .i64 a0_1], .agg #[.int .i64 a1_0, .int .i64 a1_1]] w fun e w' => e = .returned (.int .i64 r) ∧ Below w.heap.size w w' := by
 have hu41 := Try.underlying41; have HB := aM (Below.refl w.heap.size w)
 unfold impl_cross.f at h; have H := h; clear h
 obtain rfl := Option.some.inj H
 go_enter Try.func91, Try.ntmps91
 go_wp2_with (first | ((with_reducible refine gate_dst (N := 2) rfl ?_); refine bV 2 (cs := #[.int .i64 a0_0, .int .i64 a0_1]) (t := 41) rfl rfl (by first | (go_simp; done) | (go_simp; rfl)) ?_; intro gb275 hg w3 hbox hb; have BK275 := hbox; have GW275 := gZ HB hg; have GE275 := gZ HB hg; replace HB := tB HB hb; clear hb hbox hg) | ((with_reducible refine gate_dst (N := 3) rfl ?_); refine bV 3 (cs := #[.int .i64 a1_0, .int .i64 a1_1]) (t := 41) rfl rfl (by first | (go_simp; done) | (go_simp; rfl)) ?_; intro gb276 hg w4 hbox hb; have BK276 := hbox; have GW276 := gZ HB hg; have GE276 := gZ HB hg; have NB275_276 := nG BK275 hg; have NB276_275 := nH BK275 hg; replace BK275 := bB BK275 hb; replace HB := tB HB hb; clear hb hbox hg; have hnb5 := NB275_276.out; have hnc5 := NB276_275.out; have hcz6_0 := vZ0 BK275; have hcz6_1 := vZ1 BK275; have hfz6_0 := kF BK275.out 0; have hfz6_1 := kF BK275.out 1; have hcz7_0 := vZ0 BK276; have hcz7_1 := vZ1 BK276; have hfz7_0 := kF BK276.out 0; have hfz7_1 := kF BK276.out 1))
 go_ret
 exact ⟨wQ, bE⟩

def impl_size.f (a0 : Int) : Option (Int) := some (mx a0 (wrap64 (-a0)))
set_option maxHeartbeats 8000000 in
set_option maxRecDepth 100000 in
theorem impl_size.calls (a0 : Int) (r : Int) (w : World) (h : impl_size.f a0 = some r) :
  Calls Try.prog 90 #[.int .i64 a0] w fun e w' => e = .returned (.int .i64 r) ∧ Below w.heap.size w w' := by
 have HB := aM (Below.refl w.heap.size w)
 unfold impl_size.f at h; have H := h; clear h
 obtain ⟨ji2, hji2⟩ : ∃ j_ : Int, (mx a0 (wrap64 (-a0))) = j_ := ⟨_, rfl⟩
 (first | rw [hji2] at H | simp only [hji2] at H)
 have hji2_ : (if a0 < (wrap64 (-a0)) then (wrap64 (-a0)) else a0) = ji2 := hji2; obtain rfl := Option.some.inj H
 go_enter Try.func90, Try.ntmps90
 go_wp2
 go_ret
 exact ⟨by first | rfl | (simp [errW_none, errW_some] <;> rfl) | (simp only [← hji2]; first | rfl | (simp [errW_none, errW_some] <;> rfl)) | (simp [*, errW_none, errW_some] <;> rfl), bQ⟩

def impl_Peg_less.f (a0_0 : Int) (a0_1 : Int) (a1_0 : Int) (a1_1 : Int) : Option (Int × Int) := some (wrap64 (a0_0 - a1_0), wrap64 (a0_1 - a1_1))
set_option maxHeartbeats 8000000 in
set_option maxRecDepth 100000 in
theorem impl_Peg_less.calls (a0_0 : Int) (a0_1 : Int) (a1_0 : Int) (a1_1 : Int) (r1 : Int) (r2 : Int) (w : World) (h : impl_Peg_less.f a0_0 a0_1 a1_0 a1_1 = some (r1, r2)) :
  Calls Try.prog 92 #[.agg #[.int .i64 a0_0, .int .i64 a0_1], .agg #[.int .i64 a1_0, .int .i64 a1_1]] w fun e w' => e = .returned (.agg #[.int .i64 r1, .int .i64 r2]) ∧ Below w.heap.size w w' := by
 have hu41 := Try.underlying41; have HB := aM (Below.refl w.heap.size w)
 unfold impl_Peg_less.f at h; have H := h; clear h
 simp only [Option.some.injEq, Prod.mk.injEq] at H
 obtain ⟨rfl, rfl⟩ := H
 go_enter Try.func92, Try.ntmps92
 go_wp2_with (first | ((with_reducible refine gate_dst (N := 2) rfl ?_); refine bV 2 (cs := #[.int .i64 a0_0, .int .i64 a0_1]) (t := 41) rfl rfl (by first | (go_simp; done) | (go_simp; rfl)) ?_; intro gb277 hg w3 hbox hb; have BK277 := hbox; have GW277 := gZ HB hg; have GE277 := gZ HB hg; replace HB := tB HB hb; clear hb hbox hg) | ((with_reducible refine gate_dst (N := 3) rfl ?_); refine bV 3 (cs := #[.int .i64 a1_0, .int .i64 a1_1]) (t := 41) rfl rfl (by first | (go_simp; done) | (go_simp; rfl)) ?_; intro gb278 hg w4 hbox hb; have BK278 := hbox; have GW278 := gZ HB hg; have GE278 := gZ HB hg; have NB277_278 := nG BK277 hg; have NB278_277 := nH BK277 hg; replace BK277 := bB BK277 hb; replace HB := tB HB hb; clear hb hbox hg) | ((with_reducible refine gate_dst (N := 4) rfl ?_); refine bV 4 (cs := #[.int .i64 0, .int .i64 0]) (t := 41) rfl rfl (by first | (go_simp; done) | (go_simp; rfl)) ?_; intro gb279 hg w5 hbox hb; have BK279 := hbox; have GW279 := gZ HB hg; have GE279 := gZ HB hg; have NB277_279 := nG BK277 hg; have NB279_277 := nH BK277 hg; have NB278_279 := nG BK278 hg; have NB279_278 := nH BK278 hg; replace BK277 := bB BK277 hb; replace BK278 := bB BK278 hb; replace HB := tB HB hb; clear hb hbox hg; have hnb6 := NB277_278.out; have hnc6 := NB278_277.out; have hnb7 := NB277_279.out; have hnc7 := NB279_277.out; have hcz8_0 := vZ0 BK277; have hcz8_1 := vZ1 BK277; have hfz8_0 := kF BK277.out 0; have hfz8_1 := kF BK277.out 1; have hnb9 := NB278_279.out; have hnc9 := NB279_278.out; have hcz10_0 := vZ0 BK278; have hcz10_1 := vZ1 BK278; have hfz10_0 := kF BK278.out 0; have hfz10_1 := kF BK278.out 1; have hcz11_0 := vZ0 BK279; have hcz11_1 := vZ1 BK279; have hfz11_0 := kF BK279.out 0; have hfz11_1 := kF BK279.out 1))
 refine bodyPost_ret (results_cell_row rfl _ _ gb279 41 #[.int .i64 (wrap64 (a0_0 - a1_0)), .int .i64 (wrap64 (a0_1 - a1_1))] (0, 0) _ rfl (fQ BK279) Try.underlying41 rfl kR) rfl ?_
 exact ⟨wQ, bE⟩

def impl_Peg_square.f (a0_0 : Int) (a0_1 : Int) : Option (Int) := some (wrap64 ((wrap64 (a0_0 * a0_0)) + (wrap64 (a0_1 * a0_1))))
set_option maxHeartbeats 8000000 in
set_option maxRecDepth 100000 in
theorem impl_Peg_square.calls (a0_0 : Int) (a0_1 : Int) (r : Int) (w : World) (h : impl_Peg_square.f a0_0 a0_1 = some r) :
  Calls Try.prog 93 #[.agg #[.int .i64 a0_0, .int .i64 a0_1]] w fun e w' => e = .returned (.int .i64 r) ∧ Below w.heap.size w w' := by
 have hu41 := Try.underlying41; have HB := aM (Below.refl w.heap.size w)
 unfold impl_Peg_square.f at h; have H := h; clear h
 obtain rfl := Option.some.inj H
 go_enter Try.func93, Try.ntmps93
 go_wp2_with (first | ((with_reducible refine gate_dst (N := 1) rfl ?_); refine bV 1 (cs := #[.int .i64 a0_0, .int .i64 a0_1]) (t := 41) rfl rfl (by first | (go_simp; done) | (go_simp; rfl)) ?_; intro gb280 hg w2 hbox hb; have BK280 := hbox; have GW280 := gZ HB hg; have GE280 := gZ HB hg; replace HB := tB HB hb; clear hb hbox hg; have hcz3_0 := vZ0 BK280; have hcz3_1 := vZ1 BK280; have hfz3_0 := kF BK280.out 0; have hfz3_1 := kF BK280.out 1))
 go_ret
 exact ⟨wQ, bE⟩

def impl_divisor.l0 : Nat → Int → Int → Option (Int)
 | 0, _, _ => none
 | k + 1, x0, x1 => if x1 = 0 then ((impl_size.f x0).bind fun t281 => (some t281)) else (impl_divisor.l0 k x1 (Int.tmod x0 x1))
def impl_divisor.f (k : Nat) (a0 : Int) (a1 : Int) : Option (Int) := impl_divisor.l0 k a0 a1
theorem impl_divisor.mono_l : ∀ k, (∀ y0 y1, LeO (impl_divisor.l0 k y0 y1) (impl_divisor.l0 (k + 1) y0 y1))
 | 0 => fun _ _ r h => by simp [impl_divisor.l0] at h
 | k + 1 => by
  have ih0 := impl_divisor.mono_l k
  ·intro y0 y1
   unfold impl_divisor.l0
   repeat' first
   | (with_reducible exact ih0 _ _)
   | (with_reducible exact LeO.refl _)
   | (with_reducible exact LeO.none _)
   | (with_reducible refine LeO.ite ?_ ?_)
   | (with_reducible refine LeO.bind ?_ (fun _ => ?_))
   | exact ih0 _ _
   | exact LeO.none _
   | refine LeO.ite ?_ ?_
   | refine LeO.bind ?_ (fun _ => ?_)
theorem impl_divisor.mono : ∀ a0 a1 k, LeO (impl_divisor.f k a0 a1) (impl_divisor.f (k + 1) a0 a1) := by
 intro a0 a1 k
 have ih0 := impl_divisor.mono_l k
 unfold impl_divisor.f
 repeat' first | (with_reducible exact ih0 _ _) | (with_reducible exact LeO.refl _) | (with_reducible exact LeO.none _) | (with_reducible refine LeO.ite ?_ ?_) | (with_reducible refine LeO.bind ?_ (fun _ => ?_)) | exact ih0 _ _ | exact LeO.none _ | refine LeO.ite ?_ ?_ | refine LeO.bind ?_ (fun _ => ?_)
set_option maxHeartbeats 8000000 in
set_option maxRecDepth 100000 in
theorem impl_divisor.calls (k : Nat) (a0 : Int) (a1 : Int) (r : Int) (w : World) (h : impl_divisor.f k a0 a1 = some r) :
  Calls Try.prog 105 #[.int .i64 a0, .int .i64 a1] w fun e w' => e = .returned (.int .i64 r) ∧ Below w.heap.size w w' := by
 have HB := aM (Below.refl w.heap.size w)
 unfold impl_divisor.f at h; have H := h; clear h
 have H' := aM H; clear H
 go_enter Try.func105, Try.ntmps105
 go_wp2
 repeat (go_quiet (fail); try go_wp2)
 go_loopg [0, 1] k (fun kq v0 v1 w' => ∃ (x0_1 : Int) (x1_1 : Int), v0 = .int .i64 x0_1 ∧ v1 = .int .i64 x1_1 ∧ Aside0 (impl_divisor.l0 kq x0_1 x1_1 = some r) ∧ Aside0 (kq ≤ k) ∧ Aside0 (Below w.heap.size w w'))
 case atStart => exact ⟨(a0), (a1), eQ, eQ, H', ⟨Nat.le_refl _⟩, ⟨bQ⟩⟩
 case round =>
  clear H'; obtain ⟨x0_1, x1_1, rfl, rfl, HA, HK1, HB⟩ := hrel
  cases gk with
  | zero => exact absurd HA.out (by simp [impl_divisor.l0])
  | succ k1 =>
   have H := HA.out; clear HA
   simp only [impl_divisor.l0] at H
   by_cases c3 : x1_1 = 0
   ·rw [if_pos c3] at H; have c3b0 : (x1_1 == 0) = true := beq_iff_eq.mpr c3; have c3b1 : (x1_1 != 0) = false := bne_eq_false_iff_eq.mpr c3; clear c3; replace H := bS H; obtain ⟨t281, A4, H⟩ := H; obtain rfl := Option.some.inj H
    go_wp2_with (first | (go_at_call 90; (with_reducible refine (impl_size.calls x0_1 t281 _ A4.out).mono ?_); rintro e w5 ⟨rfl, hb⟩; replace HB := tB HB hb; (try clear hb); (try clear hb2); (try clear hk); (try clear hi)))
    repeat (go_quiet (first | (go_at_call 90; (with_reducible refine (impl_size.calls x0_1 t281 _ A4.out).mono ?_); rintro e w5 ⟨rfl, hb⟩; have n0_ := tB HB hb; clear HB; have HB := n0_; clear n0_; (try clear hb); (try clear hb2); (try clear hk); (try clear hi))); try go_wp2_with (first | (go_at_call 90; (with_reducible refine (impl_size.calls x0_1 t281 _ A4.out).mono ?_); rintro e w5 ⟨rfl, hb⟩; have n0_ := tB HB hb; clear HB; have HB := n0_; clear n0_; (try clear hb); (try clear hb2); (try clear hk); (try clear hi))))
    go_ret
    exact ⟨wQ, bQ⟩
   ·rw [if_neg c3] at H; have c3b0 : (x1_1 == 0) = false := beq_eq_false_iff_ne.mpr c3; have c3b1 : (x1_1 != 0) = true := bne_iff_ne.mpr c3; have H' := aM H; clear H; go_wp2
    repeat (go_quiet (fail); try go_wp2)
    go_roundg k1
    case measure => have := HK1.out; omega
    case rel => exact ⟨(x1_1), (Int.tmod x0_1 x1_1), eQ, eQ, H', ⟨by have := HK1.out; omega⟩, ⟨bQ⟩⟩

def impl_steps.f (k : Nat) (a0_0 : Int) (a0_1 : Int) (a1_0 : Int) (a1_1 : Int) : Option (Int) := (impl_divisor.f k (wrap64 (a0_0 - a1_0)) (wrap64 (a0_1 - a1_1))).bind fun t284 => (some t284)
theorem impl_steps.mono : ∀ a0 a1 a2 a3 k, LeO (impl_steps.f k a0 a1 a2 a3) (impl_steps.f (k + 1) a0 a1 a2 a3) := by
 intro a0 a1 a2 a3 k
 unfold impl_steps.f
 repeat' first | (with_reducible exact impl_divisor.mono _ _ _) | (with_reducible exact LeO.refl _) | (with_reducible exact LeO.none _) | (with_reducible refine LeO.ite ?_ ?_) | (with_reducible refine LeO.bind ?_ (fun _ => ?_)) | exact impl_divisor.mono _ _ _ | exact LeO.none _ | refine LeO.ite ?_ ?_ | refine LeO.bind ?_ (fun _ => ?_)
set_option maxHeartbeats 8000000 in
set_option maxRecDepth 100000 in
theorem impl_steps.calls (k : Nat) (a0_0 : Int) (a0_1 : Int) (a1_0 : Int) (a1_1 : Int) (r : Int) (w : World) (h : impl_steps.f k a0_0 a0_1 a1_0 a1_1 = some r) :
  Calls Try.prog 78 #[.agg #[.int .i64 a0_0, .int .i64 a0_1], .agg #[.int .i64 a1_0, .int .i64 a1_1]] w fun e w' => e = .returned (.int .i64 r) ∧ Below w.heap.size w w' := by
 have hu41 := Try.underlying41; have HB := aM (Below.refl w.heap.size w)
 unfold impl_steps.f at h; have H := h; clear h
 replace H := bS H; obtain ⟨t284, A3, H⟩ := H; obtain rfl := Option.some.inj H
 go_enter Try.func78, Try.ntmps78
 go_wp2_with (first | ((with_reducible refine gate_dst (N := 2) rfl ?_); refine bV 2 (cs := #[.int .i64 a0_0, .int .i64 a0_1]) (t := 41) rfl rfl (by first | (go_simp; done) | (go_simp; rfl)) ?_; intro gb282 hg w4 hbox hb; have BK282 := hbox; have GW282 := gZ HB hg; have GE282 := gZ HB hg; replace HB := tB HB hb; clear hb hbox hg) | ((with_reducible refine gate_dst (N := 3) rfl ?_); refine bV 3 (cs := #[.int .i64 a1_0, .int .i64 a1_1]) (t := 41) rfl rfl (by first | (go_simp; done) | (go_simp; rfl)) ?_; intro gb283 hg w5 hbox hb; have BK283 := hbox; have GW283 := gZ HB hg; have GE283 := gZ HB hg; have NB282_283 := nG BK282 hg; have NB283_282 := nH BK282 hg; replace BK282 := bB BK282 hb; replace HB := tB HB hb; clear hb hbox hg; have hnb6 := NB282_283.out; have hnc6 := NB283_282.out; have hcz7_0 := vZ0 BK282; have hcz7_1 := vZ1 BK282; have hfz7_0 := kF BK282.out 0; have hfz7_1 := kF BK282.out 1; have hcz8_0 := vZ0 BK283; have hcz8_1 := vZ1 BK283; have hfz8_0 := kF BK283.out 0; have hfz8_1 := kF BK283.out 1) | ((with_reducible refine gC (f := 105) rfl ?_); refine goesL_ (some 15) rfl rfl Try.func105 kR rfl #[.int .i64 (wrap64 (a0_0 - a1_0)), .int .i64 (wrap64 (a0_1 - a1_1))] rfl sQ ?_; (with_reducible refine (impl_divisor.calls k (wrap64 (a0_0 - a1_0)) (wrap64 (a0_1 - a1_1)) t284 _ A3.out).mono ?_); rintro e w9 ⟨rfl, hb⟩; refine ⟨_, rfl, ?_⟩; replace BK282 := bB BK282 hb; replace BK283 := bB BK283 hb; replace HB := tB HB hb; (try clear hb); (try clear hb2); (try clear hk); (try clear hi)))
 go_ret
 exact ⟨wQ, bE⟩

def impl_asHas.f (k : Nat) (a0_0 : Int) (a0_1 : Int) (a0_2 : Int) (a0_3 : Int) (a1_0 : Int) (a1_1 : Int) : Option (Int × Int × Int × Int) := if a0_0 = 0 then (some (a0_0, a1_0, a0_2, a0_3)) else (if a0_0 = 1 then (some (a0_0, a1_1, a0_2, a0_3)) else (if a0_0 = 2 then (some (a0_0, wrap64 (a1_0 + a1_1), a0_2, a0_3)) else (if a0_0 = 3 then ((impl_cross.f a0_1 a0_2 a1_0 a1_1).bind fun t289 => ((impl_size.f t289).bind fun t290 => (some (a0_0, a0_1, a0_2, t290)))) else (if a0_0 = 4 then ((impl_Peg_less.f a1_0 a1_1 a0_1 a0_2).bind fun bt291 => ((impl_Peg_square.f bt291.1 bt291.2).bind fun t293 => (some (a0_0, a0_1, a0_2, t293)))) else ((impl_steps.f k a1_0 a1_1 a0_1 a0_2).bind fun t294 => (if t294 < 2 then (some (a0_0, a0_1, a0_2, 1)) else (some (a0_0, a0_1, a0_2, 0))))))))
theorem impl_asHas.mono : ∀ a0 a1 a2 a3 a4 a5 k, LeO (impl_asHas.f k a0 a1 a2 a3 a4 a5) (impl_asHas.f (k + 1) a0 a1 a2 a3 a4 a5) := by
 intro a0 a1 a2 a3 a4 a5 k
 unfold impl_asHas.f
 repeat' first | (with_reducible exact impl_steps.mono _ _ _ _ _) | (with_reducible exact LeO.refl _) | (with_reducible exact LeO.none _) | (with_reducible refine LeO.ite ?_ ?_) | (with_reducible refine LeO.bind ?_ (fun _ => ?_)) | exact impl_steps.mono _ _ _ _ _ | exact LeO.none _ | refine LeO.ite ?_ ?_ | refine LeO.bind ?_ (fun _ => ?_)
set_option maxHeartbeats 8000000 in
set_option maxRecDepth 100000 in
theorem impl_asHas.calls (k : Nat) (a0_0 : Int) (a0_1 : Int) (a0_2 : Int) (a0_3 : Int) (a1_0 : Int) (a1_1 : Int) (r1 : Int) (r2 : Int) (r3 : Int) (r4 : Int) (w : World) (h : impl_asHas.f k a0_0 a0_1 a0_2 a0_3 a1_0 a1_1 = some (r1, r2, r3, r4)) :
  Calls Try.prog 56 #[.agg #[.int .i64 a0_0, .int .i64 a0_1, .int .i64 a0_2, .int .i64 a0_3], .agg #[.int .i64 a1_0, .int .i64 a1_1]] w fun e w' => e = .returned (.agg #[.int .i64 r1, .int .i64 r2, .int .i64 r3, .int .i64 r4]) ∧ Below w.heap.size w w' := by
 have hu48 := Try.underlying48; have hu41 := Try.underlying41; have HB := aM (Below.refl w.heap.size w)
 unfold impl_asHas.f at h; have H := h; clear h
 by_cases c3 : a0_0 = 0
 ·rw [if_pos c3] at H; have c3b0 : (a0_0 == 0) = true := beq_iff_eq.mpr c3; have c3b1 : (a0_0 != 0) = false := bne_eq_false_iff_eq.mpr c3; clear c3
  simp only [Option.some.injEq, Prod.mk.injEq] at H
  obtain ⟨rfl, rfl, rfl, rfl⟩ := H
  go_enter Try.func56, Try.ntmps56
  go_wp2_with (first | ((with_reducible refine gate_dst (N := 2) rfl ?_); refine bV 2 (cs := #[.int .i64 a0_0, .int .i64 a0_1, .int .i64 a0_2, .int .i64 a0_3]) (t := 48) rfl rfl (by first | (go_simp; done) | (go_simp; rfl)) ?_; intro gb285 hg w4 hbox hb; have BK285 := hbox; have GW285 := gZ HB hg; have GE285 := gZ HB hg; replace HB := tB HB hb; clear hb hbox hg) | ((with_reducible refine gate_dst (N := 3) rfl ?_); refine bV 3 (cs := #[.int .i64 a1_0, .int .i64 a1_1]) (t := 41) rfl rfl (by first | (go_simp; done) | (go_simp; rfl)) ?_; intro gb286 hg w5 hbox hb; have BK286 := hbox; have GW286 := gZ HB hg; have GE286 := gZ HB hg; have NB285_286 := nG BK285 hg; have NB286_285 := nH BK285 hg; replace BK285 := bB BK285 hb; replace HB := tB HB hb; clear hb hbox hg) | ((with_reducible refine gate_dst (N := 4) rfl ?_); refine bV 4 (cs := #[.int .i64 0, .int .i64 0, .int .i64 0, .int .i64 0]) (t := 48) rfl rfl (by first | (go_simp; done) | (go_simp; rfl)) ?_; intro gb287 hg w6 hbox hb; have BK287 := hbox; have GW287 := gZ HB hg; have GE287 := gZ HB hg; have NB285_287 := nG BK285 hg; have NB287_285 := nH BK285 hg; have NB286_287 := nG BK286 hg; have NB287_286 := nH BK286 hg; replace BK285 := bB BK285 hb; replace BK286 := bB BK286 hb; replace HB := tB HB hb; clear hb hbox hg; have hnb7 := NB285_286.out; have hnc7 := NB286_285.out; have hnb8 := NB285_287.out; have hnc8 := NB287_285.out; have hcz9_0 := vZ0 BK285; have hcz9_1 := vZ1 BK285; have hcz9_2 := vZ2 BK285; have hcz9_3 := vZ3 BK285; have hfz9_0 := kF BK285.out 0; have hfz9_1 := kF BK285.out 1; have hfz9_2 := kF BK285.out 2; have hfz9_3 := kF BK285.out 3) | ((with_reducible refine gate_dst (N := 5) rfl ?_); refine bV 5 (cs := #[.int .i64 0, .int .i64 0]) (t := 41) rfl rfl (by first | (go_simp; done) | (go_simp; rfl)) ?_; intro gb288 hg w10 hbox hb; have BK288 := hbox; have GW288 := gZ HB hg; have GE288 := gZ HB hg; have NB285_288 := nG BK285 hg; have NB288_285 := nH BK285 hg; have NB286_288 := nG BK286 hg; have NB288_286 := nH BK286 hg; have NB287_288 := nG BK287 hg; have NB288_287 := nH BK287 hg; replace BK285 := bB BK285 hb; replace BK286 := bB BK286 hb; replace BK287 := bB BK287 hb; replace HB := tB HB hb; clear hb hbox hg; have hnb11 := NB288_285.out; have hnc11 := NB285_288.out; have hnb12 := NB288_286.out; have hnc12 := NB286_288.out; have hnb13 := NB288_287.out; have hnc13 := NB287_288.out; have hcz14_0 := vZ0 BK288; have hcz14_1 := vZ1 BK288; have hfz14_0 := kF BK288.out 0; have hfz14_1 := kF BK288.out 1; have hcz15_0 := vZ0 BK285; have hcz15_1 := vZ1 BK285; have hcz15_2 := vZ2 BK285; have hcz15_3 := vZ3 BK285; have hfz15_0 := kF BK285.out 0; have hfz15_1 := kF BK285.out 1; have hfz15_2 := kF BK285.out 2; have hfz15_3 := kF BK285.out 3; have hnb16 := NB286_287.out; have hnc16 := NB287_286.out; have hcz17_0 := vZ0 BK286; have hcz17_1 := vZ1 BK286; have hfz17_0 := kF BK286.out 0; have hfz17_1 := kF BK286.out 1; have hcz18_0 := vZ0 BK287; have hcz18_1 := vZ1 BK287; have hcz18_2 := vZ2 BK287; have hcz18_3 := vZ3 BK287; have hfz18_0 := kF BK287.out 0; have hfz18_1 := kF BK287.out 1; have hfz18_2 := kF BK287.out 2; have hfz18_3 := kF BK287.out 3))
  refine bodyPost_ret (results_cell_row rfl _ _ gb287 48 #[.int .i64 a0_0, .int .i64 a1_0, .int .i64 a0_2, .int .i64 a0_3] (0, 0) _ rfl (fQ BK287) Try.underlying48 rfl kR) rfl ?_
  exact ⟨wQ, bE⟩
 ·rw [if_neg c3] at H; have c3b0 : (a0_0 == 0) = false := beq_eq_false_iff_ne.mpr c3; have c3b1 : (a0_0 != 0) = true := bne_iff_ne.mpr c3
  by_cases c19 : a0_0 = 1
  ·rw [if_pos c19] at H; have c19b0 : (a0_0 == 1) = true := beq_iff_eq.mpr c19; have c19b1 : (a0_0 != 1) = false := bne_eq_false_iff_eq.mpr c19; clear c19
   simp only [Option.some.injEq, Prod.mk.injEq] at H
   obtain ⟨rfl, rfl, rfl, rfl⟩ := H
   go_enter Try.func56, Try.ntmps56
   go_wp2_with (first | ((with_reducible refine gate_dst (N := 2) rfl ?_); refine bV 2 (cs := #[.int .i64 a0_0, .int .i64 a0_1, .int .i64 a0_2, .int .i64 a0_3]) (t := 48) rfl rfl (by first | (go_simp; done) | (go_simp; rfl)) ?_; intro gb285 hg w20 hbox hb; have BK285 := hbox; have GW285 := gZ HB hg; have GE285 := gZ HB hg; replace HB := tB HB hb; clear hb hbox hg) | ((with_reducible refine gate_dst (N := 3) rfl ?_); refine bV 3 (cs := #[.int .i64 a1_0, .int .i64 a1_1]) (t := 41) rfl rfl (by first | (go_simp; done) | (go_simp; rfl)) ?_; intro gb286 hg w21 hbox hb; have BK286 := hbox; have GW286 := gZ HB hg; have GE286 := gZ HB hg; have NB285_286 := nG BK285 hg; have NB286_285 := nH BK285 hg; replace BK285 := bB BK285 hb; replace HB := tB HB hb; clear hb hbox hg) | ((with_reducible refine gate_dst (N := 4) rfl ?_); refine bV 4 (cs := #[.int .i64 0, .int .i64 0, .int .i64 0, .int .i64 0]) (t := 48) rfl rfl (by first | (go_simp; done) | (go_simp; rfl)) ?_; intro gb287 hg w22 hbox hb; have BK287 := hbox; have GW287 := gZ HB hg; have GE287 := gZ HB hg; have NB285_287 := nG BK285 hg; have NB287_285 := nH BK285 hg; have NB286_287 := nG BK286 hg; have NB287_286 := nH BK286 hg; replace BK285 := bB BK285 hb; replace BK286 := bB BK286 hb; replace HB := tB HB hb; clear hb hbox hg; have hnb23 := NB285_286.out; have hnc23 := NB286_285.out; have hnb24 := NB285_287.out; have hnc24 := NB287_285.out; have hcz25_0 := vZ0 BK285; have hcz25_1 := vZ1 BK285; have hcz25_2 := vZ2 BK285; have hcz25_3 := vZ3 BK285; have hfz25_0 := kF BK285.out 0; have hfz25_1 := kF BK285.out 1; have hfz25_2 := kF BK285.out 2; have hfz25_3 := kF BK285.out 3) | ((with_reducible refine gate_dst (N := 5) rfl ?_); refine bV 5 (cs := #[.int .i64 0, .int .i64 0]) (t := 41) rfl rfl (by first | (go_simp; done) | (go_simp; rfl)) ?_; intro gb288 hg w26 hbox hb; have BK288 := hbox; have GW288 := gZ HB hg; have GE288 := gZ HB hg; have NB285_288 := nG BK285 hg; have NB288_285 := nH BK285 hg; have NB286_288 := nG BK286 hg; have NB288_286 := nH BK286 hg; have NB287_288 := nG BK287 hg; have NB288_287 := nH BK287 hg; replace BK285 := bB BK285 hb; replace BK286 := bB BK286 hb; replace BK287 := bB BK287 hb; replace HB := tB HB hb; clear hb hbox hg; have hnb27 := NB288_285.out; have hnc27 := NB285_288.out; have hnb28 := NB288_286.out; have hnc28 := NB286_288.out; have hnb29 := NB288_287.out; have hnc29 := NB287_288.out; have hcz30_0 := vZ0 BK288; have hcz30_1 := vZ1 BK288; have hfz30_0 := kF BK288.out 0; have hfz30_1 := kF BK288.out 1; have hcz31_0 := vZ0 BK285; have hcz31_1 := vZ1 BK285; have hcz31_2 := vZ2 BK285; have hcz31_3 := vZ3 BK285; have hfz31_0 := kF BK285.out 0; have hfz31_1 := kF BK285.out 1; have hfz31_2 := kF BK285.out 2; have hfz31_3 := kF BK285.out 3; have hnb32 := NB286_287.out; have hnc32 := NB287_286.out; have hcz33_0 := vZ0 BK286; have hcz33_1 := vZ1 BK286; have hfz33_0 := kF BK286.out 0; have hfz33_1 := kF BK286.out 1; have hcz34_0 := vZ0 BK287; have hcz34_1 := vZ1 BK287; have hcz34_2 := vZ2 BK287; have hcz34_3 := vZ3 BK287; have hfz34_0 := kF BK287.out 0; have hfz34_1 := kF BK287.out 1; have hfz34_2 := kF BK287.out 2; have hfz34_3 := kF BK287.out 3))
   refine bodyPost_ret (results_cell_row rfl _ _ gb287 48 #[.int .i64 a0_0, .int .i64 a1_1, .int .i64 a0_2, .int .i64 a0_3] (0, 0) _ rfl (fQ BK287) Try.underlying48 rfl kR) rfl ?_
   exact ⟨wQ, bE⟩
  ·rw [if_neg c19] at H; have c19b0 : (a0_0 == 1) = false := beq_eq_false_iff_ne.mpr c19; have c19b1 : (a0_0 != 1) = true := bne_iff_ne.mpr c19
   by_cases c35 : a0_0 = 2
   ·rw [if_pos c35] at H; have c35b0 : (a0_0 == 2) = true := beq_iff_eq.mpr c35; have c35b1 : (a0_0 != 2) = false := bne_eq_false_iff_eq.mpr c35; clear c35
    simp only [Option.some.injEq, Prod.mk.injEq] at H
    obtain ⟨rfl, rfl, rfl, rfl⟩ := H
    go_enter Try.func56, Try.ntmps56
    go_wp2_with (first | ((with_reducible refine gate_dst (N := 2) rfl ?_); refine bV 2 (cs := #[.int .i64 a0_0, .int .i64 a0_1, .int .i64 a0_2, .int .i64 a0_3]) (t := 48) rfl rfl (by first | (go_simp; done) | (go_simp; rfl)) ?_; intro gb285 hg w36 hbox hb; have BK285 := hbox; have GW285 := gZ HB hg; have GE285 := gZ HB hg; replace HB := tB HB hb; clear hb hbox hg) | ((with_reducible refine gate_dst (N := 3) rfl ?_); refine bV 3 (cs := #[.int .i64 a1_0, .int .i64 a1_1]) (t := 41) rfl rfl (by first | (go_simp; done) | (go_simp; rfl)) ?_; intro gb286 hg w37 hbox hb; have BK286 := hbox; have GW286 := gZ HB hg; have GE286 := gZ HB hg; have NB285_286 := nG BK285 hg; have NB286_285 := nH BK285 hg; replace BK285 := bB BK285 hb; replace HB := tB HB hb; clear hb hbox hg) | ((with_reducible refine gate_dst (N := 4) rfl ?_); refine bV 4 (cs := #[.int .i64 0, .int .i64 0, .int .i64 0, .int .i64 0]) (t := 48) rfl rfl (by first | (go_simp; done) | (go_simp; rfl)) ?_; intro gb287 hg w38 hbox hb; have BK287 := hbox; have GW287 := gZ HB hg; have GE287 := gZ HB hg; have NB285_287 := nG BK285 hg; have NB287_285 := nH BK285 hg; have NB286_287 := nG BK286 hg; have NB287_286 := nH BK286 hg; replace BK285 := bB BK285 hb; replace BK286 := bB BK286 hb; replace HB := tB HB hb; clear hb hbox hg; have hnb39 := NB285_286.out; have hnc39 := NB286_285.out; have hnb40 := NB285_287.out; have hnc40 := NB287_285.out; have hcz41_0 := vZ0 BK285; have hcz41_1 := vZ1 BK285; have hcz41_2 := vZ2 BK285; have hcz41_3 := vZ3 BK285; have hfz41_0 := kF BK285.out 0; have hfz41_1 := kF BK285.out 1; have hfz41_2 := kF BK285.out 2; have hfz41_3 := kF BK285.out 3) | ((with_reducible refine gate_dst (N := 5) rfl ?_); refine bV 5 (cs := #[.int .i64 0, .int .i64 0]) (t := 41) rfl rfl (by first | (go_simp; done) | (go_simp; rfl)) ?_; intro gb288 hg w42 hbox hb; have BK288 := hbox; have GW288 := gZ HB hg; have GE288 := gZ HB hg; have NB285_288 := nG BK285 hg; have NB288_285 := nH BK285 hg; have NB286_288 := nG BK286 hg; have NB288_286 := nH BK286 hg; have NB287_288 := nG BK287 hg; have NB288_287 := nH BK287 hg; replace BK285 := bB BK285 hb; replace BK286 := bB BK286 hb; replace BK287 := bB BK287 hb; replace HB := tB HB hb; clear hb hbox hg; have hnb43 := NB288_285.out; have hnc43 := NB285_288.out; have hnb44 := NB288_286.out; have hnc44 := NB286_288.out; have hnb45 := NB288_287.out; have hnc45 := NB287_288.out; have hcz46_0 := vZ0 BK288; have hcz46_1 := vZ1 BK288; have hfz46_0 := kF BK288.out 0; have hfz46_1 := kF BK288.out 1; have hcz47_0 := vZ0 BK285; have hcz47_1 := vZ1 BK285; have hcz47_2 := vZ2 BK285; have hcz47_3 := vZ3 BK285; have hfz47_0 := kF BK285.out 0; have hfz47_1 := kF BK285.out 1; have hfz47_2 := kF BK285.out 2; have hfz47_3 := kF BK285.out 3; have hnb48 := NB286_287.out; have hnc48 := NB287_286.out; have hcz49_0 := vZ0 BK286; have hcz49_1 := vZ1 BK286; have hfz49_0 := kF BK286.out 0; have hfz49_1 := kF BK286.out 1; have hcz50_0 := vZ0 BK287; have hcz50_1 := vZ1 BK287; have hcz50_2 := vZ2 BK287; have hcz50_3 := vZ3 BK287; have hfz50_0 := kF BK287.out 0; have hfz50_1 := kF BK287.out 1; have hfz50_2 := kF BK287.out 2; have hfz50_3 := kF BK287.out 3))
    refine bodyPost_ret (results_cell_row rfl _ _ gb287 48 #[.int .i64 a0_0, .int .i64 (wrap64 (a1_0 + a1_1)), .int .i64 a0_2, .int .i64 a0_3] (0, 0) _ rfl (fQ BK287) Try.underlying48 rfl kR) rfl ?_
    exact ⟨wQ, bE⟩
   ·rw [if_neg c35] at H; have c35b0 : (a0_0 == 2) = false := beq_eq_false_iff_ne.mpr c35; have c35b1 : (a0_0 != 2) = true := bne_iff_ne.mpr c35
    by_cases c51 : a0_0 = 3
    ·rw [if_pos c51] at H; have c51b0 : (a0_0 == 3) = true := beq_iff_eq.mpr c51; have c51b1 : (a0_0 != 3) = false := bne_eq_false_iff_eq.mpr c51; clear c51; replace H := bS H; obtain ⟨t289, A52, H⟩ := H; replace H := bS H; obtain ⟨t290, A53, H⟩ := H
     simp only [Option.some.injEq, Prod.mk.injEq] at H
     obtain ⟨rfl, rfl, rfl, rfl⟩ := H
     go_enter Try.func56, Try.ntmps56
     go_wp2_with (first | ((with_reducible refine gate_dst (N := 2) rfl ?_); refine bV 2 (cs := #[.int .i64 a0_0, .int .i64 a0_1, .int .i64 a0_2, .int .i64 a0_3]) (t := 48) rfl rfl (by first | (go_simp; done) | (go_simp; rfl)) ?_; intro gb285 hg w54 hbox hb; have BK285 := hbox; have GW285 := gZ HB hg; have GE285 := gZ HB hg; replace HB := tB HB hb; clear hb hbox hg) | ((with_reducible refine gate_dst (N := 3) rfl ?_); refine bV 3 (cs := #[.int .i64 a1_0, .int .i64 a1_1]) (t := 41) rfl rfl (by first | (go_simp; done) | (go_simp; rfl)) ?_; intro gb286 hg w55 hbox hb; have BK286 := hbox; have GW286 := gZ HB hg; have GE286 := gZ HB hg; have NB285_286 := nG BK285 hg; have NB286_285 := nH BK285 hg; replace BK285 := bB BK285 hb; replace HB := tB HB hb; clear hb hbox hg) | ((with_reducible refine gate_dst (N := 4) rfl ?_); refine bV 4 (cs := #[.int .i64 0, .int .i64 0, .int .i64 0, .int .i64 0]) (t := 48) rfl rfl (by first | (go_simp; done) | (go_simp; rfl)) ?_; intro gb287 hg w56 hbox hb; have BK287 := hbox; have GW287 := gZ HB hg; have GE287 := gZ HB hg; have NB285_287 := nG BK285 hg; have NB287_285 := nH BK285 hg; have NB286_287 := nG BK286 hg; have NB287_286 := nH BK286 hg; replace BK285 := bB BK285 hb; replace BK286 := bB BK286 hb; replace HB := tB HB hb; clear hb hbox hg; have hnb57 := NB285_286.out; have hnc57 := NB286_285.out; have hnb58 := NB285_287.out; have hnc58 := NB287_285.out; have hcz59_0 := vZ0 BK285; have hcz59_1 := vZ1 BK285; have hcz59_2 := vZ2 BK285; have hcz59_3 := vZ3 BK285; have hfz59_0 := kF BK285.out 0; have hfz59_1 := kF BK285.out 1; have hfz59_2 := kF BK285.out 2; have hfz59_3 := kF BK285.out 3) | ((with_reducible refine gate_dst (N := 5) rfl ?_); refine bV 5 (cs := #[.int .i64 0, .int .i64 0]) (t := 41) rfl rfl (by first | (go_simp; done) | (go_simp; rfl)) ?_; intro gb288 hg w60 hbox hb; have BK288 := hbox; have GW288 := gZ HB hg; have GE288 := gZ HB hg; have NB285_288 := nG BK285 hg; have NB288_285 := nH BK285 hg; have NB286_288 := nG BK286 hg; have NB288_286 := nH BK286 hg; have NB287_288 := nG BK287 hg; have NB288_287 := nH BK287 hg; replace BK285 := bB BK285 hb; replace BK286 := bB BK286 hb; replace BK287 := bB BK287 hb; replace HB := tB HB hb; clear hb hbox hg; have hnb61 := NB288_285.out; have hnc61 := NB285_288.out; have hnb62 := NB288_286.out; have hnc62 := NB286_288.out; have hnb63 := NB288_287.out; have hnc63 := NB287_288.out; have hcz64_0 := vZ0 BK288; have hcz64_1 := vZ1 BK288; have hfz64_0 := kF BK288.out 0; have hfz64_1 := kF BK288.out 1; have hcz65_0 := vZ0 BK285; have hcz65_1 := vZ1 BK285; have hcz65_2 := vZ2 BK285; have hcz65_3 := vZ3 BK285; have hfz65_0 := kF BK285.out 0; have hfz65_1 := kF BK285.out 1; have hfz65_2 := kF BK285.out 2; have hfz65_3 := kF BK285.out 3; have hnb66 := NB286_287.out; have hnc66 := NB287_286.out; have hcz67_0 := vZ0 BK286; have hcz67_1 := vZ1 BK286; have hfz67_0 := kF BK286.out 0; have hfz67_1 := kF BK286.out 1) | ((with_reducible refine gC (f := 91) rfl ?_); refine goesL_ (some 41) rfl rfl Try.func91 kR rfl #[.agg #[.int .i64 a0_1, .int .i64 a0_2], .agg #[.int .i64 a1_0, .int .i64 a1_1]] rfl sQ ?_; (with_reducible refine (impl_cross.calls a0_1 a0_2 a1_0 a1_1 t289 _ A52.out).mono ?_); rintro e w68 ⟨rfl, hb⟩; refine ⟨_, rfl, ?_⟩; replace BK285 := aM (blk_below (g := gb285) (o := .cells #[.int .i64 a0_0, .int .i64 a0_1, .int .i64 a0_2, .int .i64 a0_3] 48 (0, 0)) (fQ BK285) hb); replace BK286 := aM (blk_below (g := gb286) (o := .cells #[.int .i64 a1_0, .int .i64 a1_1] 41 (0, 0)) (fQ BK286) hb); replace BK287 := aM (blk_below (g := gb287) (o := .cells #[.int .i64 0, .int .i64 0, .int .i64 0, .int .i64 0] 48 (0, 0)) (fQ BK287) hb); replace BK288 := aM (blk_below (g := gb288) (o := .cells #[.int .i64 a0_1, .int .i64 a0_2] 41 (0, 0)) (fQ BK288) hb); replace HB := tB HB hb; (try clear hb); (try clear hb2); (try clear hk); (try clear hi)) | ((with_reducible refine gC (f := 90) rfl ?_); refine goesL_ (some 42) rfl rfl Try.func90 kR rfl #[.int .i64 t289] rfl sQ ?_; (with_reducible refine (impl_size.calls t289 t290 _ A53.out).mono ?_); rintro e w69 ⟨rfl, hb⟩; refine ⟨_, rfl, ?_⟩; replace BK285 := bB BK285 hb; replace BK286 := bB BK286 hb; replace BK287 := bB BK287 hb; replace BK288 := bB BK288 hb; replace HB := tB HB hb; (try clear hb); (try clear hb2); (try clear hk); (try clear hi); have hcz70_0 := vZ0 BK285; have hcz70_1 := vZ1 BK285; have hcz70_2 := vZ2 BK285; have hcz70_3 := vZ3 BK285; have hfz70_0 := kF BK285.out 0; have hfz70_1 := kF BK285.out 1; have hfz70_2 := kF BK285.out 2; have hfz70_3 := kF BK285.out 3; have hcz71_0 := vZ0 BK287; have hcz71_1 := vZ1 BK287; have hcz71_2 := vZ2 BK287; have hcz71_3 := vZ3 BK287; have hfz71_0 := kF BK287.out 0; have hfz71_1 := kF BK287.out 1; have hfz71_2 := kF BK287.out 2; have hfz71_3 := kF BK287.out 3))
     refine bodyPost_ret (results_cell_row rfl _ _ gb287 48 #[.int .i64 a0_0, .int .i64 a0_1, .int .i64 a0_2, .int .i64 t290] (0, 0) _ rfl (fQ BK287) Try.underlying48 rfl kR) rfl ?_
     exact ⟨wQ, bE⟩
    ·rw [if_neg c51] at H; have c51b0 : (a0_0 == 3) = false := beq_eq_false_iff_ne.mpr c51; have c51b1 : (a0_0 != 3) = true := bne_iff_ne.mpr c51
     by_cases c72 : a0_0 = 4
     ·rw [if_pos c72] at H; have c72b0 : (a0_0 == 4) = true := beq_iff_eq.mpr c72; have c72b1 : (a0_0 != 4) = false := bne_eq_false_iff_eq.mpr c72; clear c72; replace H := bS H; obtain ⟨⟨t291, t292⟩, A73, H⟩ := H; replace H := bS H; obtain ⟨t293, A74, H⟩ := H
      simp only [Option.some.injEq, Prod.mk.injEq] at H
      obtain ⟨rfl, rfl, rfl, rfl⟩ := H
      go_enter Try.func56, Try.ntmps56
      go_wp2_with (first | ((with_reducible refine gate_dst (N := 2) rfl ?_); refine bV 2 (cs := #[.int .i64 a0_0, .int .i64 a0_1, .int .i64 a0_2, .int .i64 a0_3]) (t := 48) rfl rfl (by first | (go_simp; done) | (go_simp; rfl)) ?_; intro gb285 hg w75 hbox hb; have BK285 := hbox; have GW285 := gZ HB hg; have GE285 := gZ HB hg; replace HB := tB HB hb; clear hb hbox hg) | ((with_reducible refine gate_dst (N := 3) rfl ?_); refine bV 3 (cs := #[.int .i64 a1_0, .int .i64 a1_1]) (t := 41) rfl rfl (by first | (go_simp; done) | (go_simp; rfl)) ?_; intro gb286 hg w76 hbox hb; have BK286 := hbox; have GW286 := gZ HB hg; have GE286 := gZ HB hg; have NB285_286 := nG BK285 hg; have NB286_285 := nH BK285 hg; replace BK285 := bB BK285 hb; replace HB := tB HB hb; clear hb hbox hg) | ((with_reducible refine gate_dst (N := 4) rfl ?_); refine bV 4 (cs := #[.int .i64 0, .int .i64 0, .int .i64 0, .int .i64 0]) (t := 48) rfl rfl (by first | (go_simp; done) | (go_simp; rfl)) ?_; intro gb287 hg w77 hbox hb; have BK287 := hbox; have GW287 := gZ HB hg; have GE287 := gZ HB hg; have NB285_287 := nG BK285 hg; have NB287_285 := nH BK285 hg; have NB286_287 := nG BK286 hg; have NB287_286 := nH BK286 hg; replace BK285 := bB BK285 hb; replace BK286 := bB BK286 hb; replace HB := tB HB hb; clear hb hbox hg; have hnb78 := NB285_286.out; have hnc78 := NB286_285.out; have hnb79 := NB285_287.out; have hnc79 := NB287_285.out; have hcz80_0 := vZ0 BK285; have hcz80_1 := vZ1 BK285; have hcz80_2 := vZ2 BK285; have hcz80_3 := vZ3 BK285; have hfz80_0 := kF BK285.out 0; have hfz80_1 := kF BK285.out 1; have hfz80_2 := kF BK285.out 2; have hfz80_3 := kF BK285.out 3) | ((with_reducible refine gate_dst (N := 5) rfl ?_); refine bV 5 (cs := #[.int .i64 0, .int .i64 0]) (t := 41) rfl rfl (by first | (go_simp; done) | (go_simp; rfl)) ?_; intro gb288 hg w81 hbox hb; have BK288 := hbox; have GW288 := gZ HB hg; have GE288 := gZ HB hg; have NB285_288 := nG BK285 hg; have NB288_285 := nH BK285 hg; have NB286_288 := nG BK286 hg; have NB288_286 := nH BK286 hg; have NB287_288 := nG BK287 hg; have NB288_287 := nH BK287 hg; replace BK285 := bB BK285 hb; replace BK286 := bB BK286 hb; replace BK287 := bB BK287 hb; replace HB := tB HB hb; clear hb hbox hg; have hnb82 := NB288_285.out; have hnc82 := NB285_288.out; have hnb83 := NB288_286.out; have hnc83 := NB286_288.out; have hnb84 := NB288_287.out; have hnc84 := NB287_288.out; have hcz85_0 := vZ0 BK288; have hcz85_1 := vZ1 BK288; have hfz85_0 := kF BK288.out 0; have hfz85_1 := kF BK288.out 1; have hcz86_0 := vZ0 BK285; have hcz86_1 := vZ1 BK285; have hcz86_2 := vZ2 BK285; have hcz86_3 := vZ3 BK285; have hfz86_0 := kF BK285.out 0; have hfz86_1 := kF BK285.out 1; have hfz86_2 := kF BK285.out 2; have hfz86_3 := kF BK285.out 3; have hnb87 := NB286_287.out; have hnc87 := NB287_286.out; have hcz88_0 := vZ0 BK286; have hcz88_1 := vZ1 BK286; have hfz88_0 := kF BK286.out 0; have hfz88_1 := kF BK286.out 1) | ((with_reducible refine gC (f := 92) rfl ?_); refine goesL_ (some 48) rfl rfl Try.func92 kR rfl #[.agg #[.int .i64 a1_0, .int .i64 a1_1], .agg #[.int .i64 a0_1, .int .i64 a0_2]] rfl sQ ?_; (with_reducible refine (impl_Peg_less.calls a1_0 a1_1 a0_1 a0_2 t291 t292 _ A73.out).mono ?_); rintro e w89 ⟨rfl, hb⟩; refine ⟨_, rfl, ?_⟩; replace BK285 := aM (blk_below (g := gb285) (o := .cells #[.int .i64 a0_0, .int .i64 a0_1, .int .i64 a0_2, .int .i64 a0_3] 48 (0, 0)) (fQ BK285) hb); replace BK286 := aM (blk_below (g := gb286) (o := .cells #[.int .i64 a1_0, .int .i64 a1_1] 41 (0, 0)) (fQ BK286) hb); replace BK287 := aM (blk_below (g := gb287) (o := .cells #[.int .i64 0, .int .i64 0, .int .i64 0, .int .i64 0] 48 (0, 0)) (fQ BK287) hb); replace BK288 := aM (blk_below (g := gb288) (o := .cells #[.int .i64 a0_1, .int .i64 a0_2] 41 (0, 0)) (fQ BK288) hb); replace HB := tB HB hb; (try clear hb); (try clear hb2); (try clear hk); (try clear hi)) | ((with_reducible refine gC (f := 93) rfl ?_); refine goesL_ (some 49) rfl rfl Try.func93 kR rfl #[.agg #[.int .i64 t291, .int .i64 t292]] rfl sQ ?_; (with_reducible refine (impl_Peg_square.calls t291 t292 t293 _ A74.out).mono ?_); rintro e w90 ⟨rfl, hb⟩; refine ⟨_, rfl, ?_⟩; replace BK285 := bB BK285 hb; replace BK286 := bB BK286 hb; replace BK287 := bB BK287 hb; replace BK288 := bB BK288 hb; replace HB := tB HB hb; (try clear hb); (try clear hb2); (try clear hk); (try clear hi); have hcz91_0 := vZ0 BK285; have hcz91_1 := vZ1 BK285; have hcz91_2 := vZ2 BK285; have hcz91_3 := vZ3 BK285; have hfz91_0 := kF BK285.out 0; have hfz91_1 := kF BK285.out 1; have hfz91_2 := kF BK285.out 2; have hfz91_3 := kF BK285.out 3; have hcz92_0 := vZ0 BK287; have hcz92_1 := vZ1 BK287; have hcz92_2 := vZ2 BK287; have hcz92_3 := vZ3 BK287; have hfz92_0 := kF BK287.out 0; have hfz92_1 := kF BK287.out 1; have hfz92_2 := kF BK287.out 2; have hfz92_3 := kF BK287.out 3))
      refine bodyPost_ret (results_cell_row rfl _ _ gb287 48 #[.int .i64 a0_0, .int .i64 a0_1, .int .i64 a0_2, .int .i64 t293] (0, 0) _ rfl (fQ BK287) Try.underlying48 rfl kR) rfl ?_
      exact ⟨wQ, bE⟩
     ·rw [if_neg c72] at H; have c72b0 : (a0_0 == 4) = false := beq_eq_false_iff_ne.mpr c72; have c72b1 : (a0_0 != 4) = true := bne_iff_ne.mpr c72; replace H := bS H; obtain ⟨t294, A93, H⟩ := H
      by_cases c94 : t294 < 2
      ·rw [if_pos c94] at H; have c94b0 := dE c94; clear c94
       simp only [Option.some.injEq, Prod.mk.injEq] at H
       obtain ⟨rfl, rfl, rfl, rfl⟩ := H
       go_enter Try.func56, Try.ntmps56
       go_wp2_with (first | ((with_reducible refine gate_dst (N := 2) rfl ?_); refine bV 2 (cs := #[.int .i64 a0_0, .int .i64 a0_1, .int .i64 a0_2, .int .i64 a0_3]) (t := 48) rfl rfl (by first | (go_simp; done) | (go_simp; rfl)) ?_; intro gb285 hg w95 hbox hb; have BK285 := hbox; have GW285 := gZ HB hg; have GE285 := gZ HB hg; replace HB := tB HB hb; clear hb hbox hg) | ((with_reducible refine gate_dst (N := 3) rfl ?_); refine bV 3 (cs := #[.int .i64 a1_0, .int .i64 a1_1]) (t := 41) rfl rfl (by first | (go_simp; done) | (go_simp; rfl)) ?_; intro gb286 hg w96 hbox hb; have BK286 := hbox; have GW286 := gZ HB hg; have GE286 := gZ HB hg; have NB285_286 := nG BK285 hg; have NB286_285 := nH BK285 hg; replace BK285 := bB BK285 hb; replace HB := tB HB hb; clear hb hbox hg) | ((with_reducible refine gate_dst (N := 4) rfl ?_); refine bV 4 (cs := #[.int .i64 0, .int .i64 0, .int .i64 0, .int .i64 0]) (t := 48) rfl rfl (by first | (go_simp; done) | (go_simp; rfl)) ?_; intro gb287 hg w97 hbox hb; have BK287 := hbox; have GW287 := gZ HB hg; have GE287 := gZ HB hg; have NB285_287 := nG BK285 hg; have NB287_285 := nH BK285 hg; have NB286_287 := nG BK286 hg; have NB287_286 := nH BK286 hg; replace BK285 := bB BK285 hb; replace BK286 := bB BK286 hb; replace HB := tB HB hb; clear hb hbox hg; have hnb98 := NB285_286.out; have hnc98 := NB286_285.out; have hnb99 := NB285_287.out; have hnc99 := NB287_285.out; have hcz100_0 := vZ0 BK285; have hcz100_1 := vZ1 BK285; have hcz100_2 := vZ2 BK285; have hcz100_3 := vZ3 BK285; have hfz100_0 := kF BK285.out 0; have hfz100_1 := kF BK285.out 1; have hfz100_2 := kF BK285.out 2; have hfz100_3 := kF BK285.out 3) | ((with_reducible refine gate_dst (N := 5) rfl ?_); refine bV 5 (cs := #[.int .i64 0, .int .i64 0]) (t := 41) rfl rfl (by first | (go_simp; done) | (go_simp; rfl)) ?_; intro gb288 hg w101 hbox hb; have BK288 := hbox; have GW288 := gZ HB hg; have GE288 := gZ HB hg; have NB285_288 := nG BK285 hg; have NB288_285 := nH BK285 hg; have NB286_288 := nG BK286 hg; have NB288_286 := nH BK286 hg; have NB287_288 := nG BK287 hg; have NB288_287 := nH BK287 hg; replace BK285 := bB BK285 hb; replace BK286 := bB BK286 hb; replace BK287 := bB BK287 hb; replace HB := tB HB hb; clear hb hbox hg; have hnb102 := NB288_285.out; have hnc102 := NB285_288.out; have hnb103 := NB288_286.out; have hnc103 := NB286_288.out; have hnb104 := NB288_287.out; have hnc104 := NB287_288.out; have hcz105_0 := vZ0 BK288; have hcz105_1 := vZ1 BK288; have hfz105_0 := kF BK288.out 0; have hfz105_1 := kF BK288.out 1; have hcz106_0 := vZ0 BK285; have hcz106_1 := vZ1 BK285; have hcz106_2 := vZ2 BK285; have hcz106_3 := vZ3 BK285; have hfz106_0 := kF BK285.out 0; have hfz106_1 := kF BK285.out 1; have hfz106_2 := kF BK285.out 2; have hfz106_3 := kF BK285.out 3; have hnb107 := NB286_287.out; have hnc107 := NB287_286.out; have hcz108_0 := vZ0 BK286; have hcz108_1 := vZ1 BK286; have hfz108_0 := kF BK286.out 0; have hfz108_1 := kF BK286.out 1) | ((with_reducible refine gC (f := 78) rfl ?_); refine goesL_ (some 16) rfl rfl Try.func78 kR rfl #[.agg #[.int .i64 a1_0, .int .i64 a1_1], .agg #[.int .i64 a0_1, .int .i64 a0_2]] rfl sQ ?_; (with_reducible refine (impl_steps.calls k a1_0 a1_1 a0_1 a0_2 t294 _ A93.out).mono ?_); rintro e w109 ⟨rfl, hb⟩; refine ⟨_, rfl, ?_⟩; replace BK285 := aM (blk_below (g := gb285) (o := .cells #[.int .i64 a0_0, .int .i64 a0_1, .int .i64 a0_2, .int .i64 0] 48 (0, 0)) (fQ BK285) hb); replace BK286 := aM (blk_below (g := gb286) (o := .cells #[.int .i64 a1_0, .int .i64 a1_1] 41 (0, 0)) (fQ BK286) hb); replace BK287 := aM (blk_below (g := gb287) (o := .cells #[.int .i64 0, .int .i64 0, .int .i64 0, .int .i64 0] 48 (0, 0)) (fQ BK287) hb); replace BK288 := aM (blk_below (g := gb288) (o := .cells #[.int .i64 a0_1, .int .i64 a0_2] 41 (0, 0)) (fQ BK288) hb); replace HB := tB HB hb; (try clear hb); (try clear hb2); (try clear hk); (try clear hi); have hcz110_0 := vZ0 BK285; have hcz110_1 := vZ1 BK285; have hcz110_2 := vZ2 BK285; have hcz110_3 := vZ3 BK285; have hfz110_0 := kF BK285.out 0; have hfz110_1 := kF BK285.out 1; have hfz110_2 := kF BK285.out 2; have hfz110_3 := kF BK285.out 3; have hcz111_0 := vZ0 BK287; have hcz111_1 := vZ1 BK287; have hcz111_2 := vZ2 BK287; have hcz111_3 := vZ3 BK287; have hfz111_0 := kF BK287.out 0; have hfz111_1 := kF BK287.out 1; have hfz111_2 := kF BK287.out 2; have hfz111_3 := kF BK287.out 3))
       refine bodyPost_ret (results_cell_row rfl _ _ gb287 48 #[.int .i64 a0_0, .int .i64 a0_1, .int .i64 a0_2, .int .i64 1] (0, 0) _ rfl (fQ BK287) Try.underlying48 rfl kR) rfl ?_
       exact ⟨wQ, bE⟩
      ·rw [if_neg c94] at H; have c94b0 := decide_eq_false c94; clear c94
       simp only [Option.some.injEq, Prod.mk.injEq] at H
       obtain ⟨rfl, rfl, rfl, rfl⟩ := H
       go_enter Try.func56, Try.ntmps56
       go_wp2_with (first | ((with_reducible refine gate_dst (N := 2) rfl ?_); refine bV 2 (cs := #[.int .i64 a0_0, .int .i64 a0_1, .int .i64 a0_2, .int .i64 a0_3]) (t := 48) rfl rfl (by first | (go_simp; done) | (go_simp; rfl)) ?_; intro gb285 hg w112 hbox hb; have BK285 := hbox; have GW285 := gZ HB hg; have GE285 := gZ HB hg; replace HB := tB HB hb; clear hb hbox hg) | ((with_reducible refine gate_dst (N := 3) rfl ?_); refine bV 3 (cs := #[.int .i64 a1_0, .int .i64 a1_1]) (t := 41) rfl rfl (by first | (go_simp; done) | (go_simp; rfl)) ?_; intro gb286 hg w113 hbox hb; have BK286 := hbox; have GW286 := gZ HB hg; have GE286 := gZ HB hg; have NB285_286 := nG BK285 hg; have NB286_285 := nH BK285 hg; replace BK285 := bB BK285 hb; replace HB := tB HB hb; clear hb hbox hg) | ((with_reducible refine gate_dst (N := 4) rfl ?_); refine bV 4 (cs := #[.int .i64 0, .int .i64 0, .int .i64 0, .int .i64 0]) (t := 48) rfl rfl (by first | (go_simp; done) | (go_simp; rfl)) ?_; intro gb287 hg w114 hbox hb; have BK287 := hbox; have GW287 := gZ HB hg; have GE287 := gZ HB hg; have NB285_287 := nG BK285 hg; have NB287_285 := nH BK285 hg; have NB286_287 := nG BK286 hg; have NB287_286 := nH BK286 hg; replace BK285 := bB BK285 hb; replace BK286 := bB BK286 hb; replace HB := tB HB hb; clear hb hbox hg; have hnb115 := NB285_286.out; have hnc115 := NB286_285.out; have hnb116 := NB285_287.out; have hnc116 := NB287_285.out; have hcz117_0 := vZ0 BK285; have hcz117_1 := vZ1 BK285; have hcz117_2 := vZ2 BK285; have hcz117_3 := vZ3 BK285; have hfz117_0 := kF BK285.out 0; have hfz117_1 := kF BK285.out 1; have hfz117_2 := kF BK285.out 2; have hfz117_3 := kF BK285.out 3) | ((with_reducible refine gate_dst (N := 5) rfl ?_); refine bV 5 (cs := #[.int .i64 0, .int .i64 0]) (t := 41) rfl rfl (by first | (go_simp; done) | (go_simp; rfl)) ?_; intro gb288 hg w118 hbox hb; have BK288 := hbox; have GW288 := gZ HB hg; have GE288 := gZ HB hg; have NB285_288 := nG BK285 hg; have NB288_285 := nH BK285 hg; have NB286_288 := nG BK286 hg; have NB288_286 := nH BK286 hg; have NB287_288 := nG BK287 hg; have NB288_287 := nH BK287 hg; replace BK285 := bB BK285 hb; replace BK286 := bB BK286 hb; replace BK287 := bB BK287 hb; replace HB := tB HB hb; clear hb hbox hg; have hnb119 := NB288_285.out; have hnc119 := NB285_288.out; have hnb120 := NB288_286.out; have hnc120 := NB286_288.out; have hnb121 := NB288_287.out; have hnc121 := NB287_288.out; have hcz122_0 := vZ0 BK288; have hcz122_1 := vZ1 BK288; have hfz122_0 := kF BK288.out 0; have hfz122_1 := kF BK288.out 1; have hcz123_0 := vZ0 BK285; have hcz123_1 := vZ1 BK285; have hcz123_2 := vZ2 BK285; have hcz123_3 := vZ3 BK285; have hfz123_0 := kF BK285.out 0; have hfz123_1 := kF BK285.out 1; have hfz123_2 := kF BK285.out 2; have hfz123_3 := kF BK285.out 3; have hnb124 := NB286_287.out; have hnc124 := NB287_286.out; have hcz125_0 := vZ0 BK286; have hcz125_1 := vZ1 BK286; have hfz125_0 := kF BK286.out 0; have hfz125_1 := kF BK286.out 1) | ((with_reducible refine gC (f := 78) rfl ?_); refine goesL_ (some 16) rfl rfl Try.func78 kR rfl #[.agg #[.int .i64 a1_0, .int .i64 a1_1], .agg #[.int .i64 a0_1, .int .i64 a0_2]] rfl sQ ?_; (with_reducible refine (impl_steps.calls k a1_0 a1_1 a0_1 a0_2 t294 _ A93.out).mono ?_); rintro e w126 ⟨rfl, hb⟩; refine ⟨_, rfl, ?_⟩; replace BK285 := aM (blk_below (g := gb285) (o := .cells #[.int .i64 a0_0, .int .i64 a0_1, .int .i64 a0_2, .int .i64 0] 48 (0, 0)) (fQ BK285) hb); replace BK286 := aM (blk_below (g := gb286) (o := .cells #[.int .i64 a1_0, .int .i64 a1_1] 41 (0, 0)) (fQ BK286) hb); replace BK287 := aM (blk_below (g := gb287) (o := .cells #[.int .i64 0, .int .i64 0, .int .i64 0, .int .i64 0] 48 (0, 0)) (fQ BK287) hb); replace BK288 := aM (blk_below (g := gb288) (o := .cells #[.int .i64 a0_1, .int .i64 a0_2] 41 (0, 0)) (fQ BK288) hb); replace HB := tB HB hb; (try clear hb); (try clear hb2); (try clear hk); (try clear hi); have hcz127_0 := vZ0 BK285; have hcz127_1 := vZ1 BK285; have hcz127_2 := vZ2 BK285; have hcz127_3 := vZ3 BK285; have hfz127_0 := kF BK285.out 0; have hfz127_1 := kF BK285.out 1; have hfz127_2 := kF BK285.out 2; have hfz127_3 := kF BK285.out 3; have hcz128_0 := vZ0 BK287; have hcz128_1 := vZ1 BK287; have hcz128_2 := vZ2 BK287; have hcz128_3 := vZ3 BK287; have hfz128_0 := kF BK287.out 0; have hfz128_1 := kF BK287.out 1; have hfz128_2 := kF BK287.out 2; have hfz128_3 := kF BK287.out 3))
       refine bodyPost_ret (results_cell_row rfl _ _ gb287 48 #[.int .i64 a0_0, .int .i64 a0_1, .int .i64 a0_2, .int .i64 0] (0, 0) _ rfl (fQ BK287) Try.underlying48 rfl kR) rfl ?_
       exact ⟨wQ, bE⟩

end Go.Proofs.Ytoeclfihlhmnpaa.X
