-- thin
-- short
-- compact
import Derived.Test.YtajfdfaembcodaaXA
import Derived.Test.YtajfdfaembcodaaX0
import Derived.Test.YtajfdfaembcodaaX6
import Derived.Test.YtajfdfaembcodaaX8
import Derived.Test.YtajfdfaembcodaaX17
namespace Go.Proofs.Ytajfdfaembcodaa.X
open Go.RowKit Go.Proofs.Ytajfdfaembcodaa.XW Go.Proofs.YtajfdfaembcodaaW.PrintWords Go.Proofs.YtajfdfaembcodaaW.PrintLast Go.Proofs.YtajfdfaembcodaaW.PrintMore
attribute [local go_sem] max2_int min2_int max_two min_two max_three min_three max_four min_four   -- for this text's walks alone
set_option linter.unusedVariables false
set_option linter.unusedSimpArgs false

def impl_NeedlessClues.l0 : Nat → Int → List Int → Int → Int → Int → List (S_impl_Clue) → Option (List Int × Bool)
 | 0, _, _, _, _, _, _ => none
 | k + 1, x4, x5, x18, x19, x450000, x450001 => if x19 < x18 then ((impl_dropped.f x450001 x19).bind fun t457 => ((impl_Puzzle_solutions.f k x450000 x450001 t457).bind fun t460 => (if (t460.length : Int) = x4 then (if x5.length < 17592186044416 then (impl_NeedlessClues.l0 k x4 (x5 ++ [x19]) x18 (wrap64 (x19 + 1)) x450000 x450001) else (none)) else (impl_NeedlessClues.l0 k x4 x5 x18 (wrap64 (x19 + 1)) x450000 x450001)))) else (some (x5, true))
def impl_NeedlessClues.f (k : Nat) (a0_0 : Int) (l0_1 : List (S_impl_Clue)) : Option (List Int × Bool) := (impl_IsPuzzle.f k a0_0 l0_1).bind fun t450 => (if t450 = true then ((impl_Puzzle_solutions.f k a0_0 l0_1 l0_1).bind fun t451 => (impl_NeedlessClues.l0 k (t451.length : Int) (([] : List Int)) (l0_1.length : Int) 0 a0_0 l0_1)) else (some (([] : List Int), false)))
theorem impl_NeedlessClues.mono_l : ∀ k, (∀ y0 y1 y2 y3 y4 y5, LeO (impl_NeedlessClues.l0 k y0 y1 y2 y3 y4 y5) (impl_NeedlessClues.l0 (k + 1) y0 y1 y2 y3 y4 y5))
 | 0 => fun _ _ _ _ _ _ r h => by simp [impl_NeedlessClues.l0] at h
 | k + 1 => by
  have ih0 := impl_NeedlessClues.mono_l k
  ·intro y0 y1 y2 y3 y4 y5
   unfold impl_NeedlessClues.l0
   repeat' first
   | (with_reducible exact ih0 _ _ _ _ _ _)
   | (with_reducible exact impl_IsPuzzle.mono _ _ _)
   | (with_reducible exact impl_Puzzle_solutions.mono _ _ _ _)
   | (with_reducible exact LeO.refl _)
   | (with_reducible exact LeO.none _)
   | (with_reducible refine LeO.ite ?_ ?_)
   | (with_reducible refine LeO.bind ?_ (fun _ => ?_))
   | exact ih0 _ _ _ _ _ _
   | exact impl_IsPuzzle.mono _ _ _
   | exact impl_Puzzle_solutions.mono _ _ _ _
   | exact LeO.none _
   | refine LeO.ite ?_ ?_
   | refine LeO.bind ?_ (fun _ => ?_)
theorem impl_NeedlessClues.mono : ∀ a0 a1 k, LeO (impl_NeedlessClues.f k a0 a1) (impl_NeedlessClues.f (k + 1) a0 a1) := by
 intro a0 a1 k
 have ih0 := impl_NeedlessClues.mono_l k
 unfold impl_NeedlessClues.f
 repeat' first | (with_reducible exact ih0 _ _ _ _ _ _) | (with_reducible exact impl_IsPuzzle.mono _ _ _) | (with_reducible exact impl_Puzzle_solutions.mono _ _ _ _) | (with_reducible exact LeO.refl _) | (with_reducible exact LeO.none _) | (with_reducible refine LeO.ite ?_ ?_) | (with_reducible refine LeO.bind ?_ (fun _ => ?_)) | exact ih0 _ _ _ _ _ _ | exact impl_IsPuzzle.mono _ _ _ | exact impl_Puzzle_solutions.mono _ _ _ _ | exact LeO.none _ | refine LeO.ite ?_ ?_ | refine LeO.bind ?_ (fun _ => ?_)
def impl_NeedlessClues.T7 : Bool × List (List Nat × List Nat) := (true, [([], []), ([], []), ([1], [1]), ([], []), ([2, 3], [2, 3]), ([0, 4, 4], [0, 4]), ([5], [5]), ([], []), ([6, 7], [6, 7])])
def impl_NeedlessClues.B7 : List Nat := [0, 0, 2, 0, 14, 31, 63, 0, 255]
theorem impl_NeedlessClues.tab7 : rtab .any (opsOf Try.f22 7) = impl_NeedlessClues.T7 := by kernel_rfl
theorem impl_NeedlessClues.bits7 : waitsOk impl_NeedlessClues.T7.2 impl_NeedlessClues.B7 = true := by kernel_rfl
set_option maxHeartbeats 8000000 in
set_option maxRecDepth 100000 in
theorem impl_NeedlessClues.calls (k : Nat) (a0_0 : Int) (A0_1 : Option Addr) (c0_1 : Nat) (l0_1 : List (S_impl_Clue)) (r1 : List Int) (r2 : Bool) (w : World) (hr0_1 : Kd.C kd_impl_Clue w A0_1 l0_1.length l0_1) (hc0_1 : l0_1.length ≤ c0_1) (h : impl_NeedlessClues.f k a0_0 l0_1 = some (r1, r2)) :
  Calls Try.prog 22 #[.agg #[.int .i64 a0_0, .slice A0_1 l0_1.length c0_1]] w fun e w' => ∃ v0_ : Value, e = .returned (.tuple #[v0_, .bool r2]) ∧ Kd.R (Kd.int .i64) 3 w' w.heap.size (fun _ => True) v0_ r1 ∧ Below w.heap.size w w' := by
 have hu31 := Try.underlying31; have HR0_1 := aM hr0_1; have HC0_1 := aM hc0_1; clear hr0_1 hc0_1; have HB := aM (Below.refl w.heap.size w)
 unfold impl_NeedlessClues.f at h; have H := h; clear h
 replace H := bS H; obtain ⟨t450, A2, H⟩ := H
 by_cases c3 : t450 = true
 ·subst c3; replace H := iT H; replace H := bS H; obtain ⟨t451, A4, H⟩ := H; obtain ⟨y454, hy454⟩ : ∃ y_ : List Int, y_ = (([] : List Int)) := ⟨_, rfl⟩; rw [← hy454] at H; have Ny454 := aM hy454; clear hy454; have H' := aM H; clear H
  go_enter Try.func22, Try.ntmps22
  go_wp2_with (first | ((with_reducible refine gate_dst (N := 1) rfl ?_); refine bV 1 (cs := #[.int .i64 a0_0, .slice A0_1 l0_1.length c0_1]) (t := 31) rfl rfl (by first | (go_simp; done) | (go_simp; rfl)) ?_; intro gb449 hg w5 hbox hb; have BK449 := hbox; have GW449 := gZ HB hg; have GE449 := gZ HB hg; replace HB := tB HB hb; clear hb hbox hg; have hcz6_0 := vZ0 BK449; have hcz6_1 := vZ1 BK449; have hfz6_0 := kF BK449.out 0; have hfz6_1 := kF BK449.out 1) | ((with_reducible refine gC (f := 30) rfl ?_); refine goesL_ (some 8) rfl rfl Try.func30 kR rfl #[.agg #[.int .i64 a0_0, .slice A0_1 l0_1.length c0_1]] rfl sQ ?_; (with_reducible refine (impl_IsPuzzle.calls k a0_0 _ _ l0_1 true _ ?side1 ?side2 A2.out).mono ?_); (case side1 => repeat (first | exact (Kd.C_below HR0_1.out HB.out) | (with_reducible refine cA ?_ _) | (with_reducible refine cN ?_ _) | (with_reducible refine cD ?_))); (case side2 => exact HC0_1.out); rintro e w7 ⟨rfl, hb⟩; refine ⟨_, rfl, ?_⟩; replace BK449 := bB BK449 hb; replace HB := tB HB hb; (try clear hb); (try clear hb2); (try clear hk); (try clear hi); have hcz8_0 := vZ0 BK449; have hcz8_1 := vZ1 BK449; have hfz8_0 := kF BK449.out 0; have hfz8_1 := kF BK449.out 1) | ((with_reducible refine gC (f := 31) rfl ?_); refine goesL_ (some 13) rfl rfl Try.func31 kR rfl #[.agg #[.int .i64 a0_0, .slice A0_1 l0_1.length c0_1], .slice A0_1 l0_1.length c0_1] rfl sQ ?_; (with_reducible refine (impl_Puzzle_solutions.calls k a0_0 _ _ l0_1 _ _ l0_1 t451 _ ?side1 ?side2 ?side3 ?side4 A4.out).mono ?_); (case side1 => repeat (first | exact (Kd.C_below HR0_1.out HB.out) | (with_reducible refine cA ?_ _) | (with_reducible refine cN ?_ _) | (with_reducible refine cD ?_))); (case side2 => exact HC0_1.out); (case side3 => repeat (first | exact (Kd.C_below HR0_1.out HB.out) | (with_reducible refine cA ?_ _) | (with_reducible refine cN ?_ _) | (with_reducible refine cD ?_))); (case side4 => exact HC0_1.out); rintro e w9 ⟨v452, rfl, ho0, hb⟩; refine ⟨_, rfl, ?_⟩; have HO453 := aM (Kd.R_lower ho0 (pZ bE)); replace BK449 := bB BK449 hb; replace HB := tB HB hb; (try clear hb); (try clear hb2); (try clear hk); (try clear hi); (try clear ho0); obtain ⟨Ao10, co10, eo10⟩ := Kd.R_slice HO453.out; subst eo10) | ((with_reducible refine gate_dst (N := 15) rfl ?_); refine Kd.R_lit (Kd.int .i64) _ 3 ?hg (N := 15) ?hd (xs := ([] : List Int)) (inner := []) (ok := fun _ => True) (okp := fun _ => True) ?hr ?hp (fun _ hk => hk) trivial (Below.refl _ _) (Nat.le_refl _) (by simp) ?_; (case hd => rfl); (case hg => rfl); (case hr => first | (go_simp; done) | (go_simp; rfl)); (case hp => exact (Reps.none _ _)); intro v455 w11 ho12 hb hg_ hnew_; clear hg_ hnew_; (first | rw [← Ny454.out] at ho12 | (simp only [Int.reduceToNat] at ho12; rw [← Ny454.out] at ho12)); have HO456 := aM (Kd.R_lower ho12 (pZ bE)); replace HO453 := aM (Kd.R_below (by (with_reducible repeat (first | apply rA | apply rN | apply rD)); exact HO453.out) hb); replace BK449 := bB BK449 hb; replace HB := tB HB hb; clear hb ho12; have hcz13_0 := vZ0 BK449; have hcz13_1 := vZ1 BK449; have hfz13_0 := kF BK449.out 0; have hfz13_1 := kF BK449.out 1))
  go_loopg [5, 19] k (fun kq v5 v19 w' => ∃ (x5_1 : List Int) (x19_1 : Int), v19 = .int .i64 x19_1 ∧ Aside0 (impl_NeedlessClues.l0 kq (t451.length : Int) x5_1 (l0_1.length : Int) x19_1 a0_0 l0_1 = some (r1, r2)) ∧ Aside0 (kq ≤ k) ∧ Aside0 (Kd.R (Kd.int .i64) 3 w' w.heap.size (fun _ => True) v5 x5_1) ∧ Aside0 (w'.heap[gb449]? = some (.cells #[.int .i64 a0_0, (.slice A0_1 l0_1.length c0_1)] 31 (0, 0))) ∧ Aside0 (Below w.heap.size w w'))
  case atStart => exact ⟨(y454), (0), eQ, H', ⟨Nat.le_refl _⟩, ⟨by (with_reducible repeat (first | apply rA | apply rN | apply rD)); exact HO456.out⟩, ⟨gQ BK449⟩, ⟨bE⟩⟩
  case round =>
   clear H'; (try clear c3); (try clear hcz13_0); (try clear hcz13_1); (try clear hcz6_0); (try clear hcz6_1); (try clear hcz8_0); (try clear hcz8_1); (try clear hfz13_0); (try clear hfz13_1); (try clear hfz6_0); (try clear hfz6_1); (try clear hfz8_0); (try clear hfz8_1); obtain ⟨x5_1, x19_1, rfl, HA, HK1, HO_5, BK449, HB⟩ := hrel
   cases gk with
   | zero => exact absurd HA.out (by simp [impl_NeedlessClues.l0])
   | succ k1 =>
    have H := HA.out; clear HA
    simp only [impl_NeedlessClues.l0] at H
    by_cases c14 : x19_1 < (l0_1.length : Int)
    ·rw [if_pos c14] at H; have c14b0 := dE c14; clear c14; replace H := bS H; obtain ⟨t457, A15, H⟩ := H; replace H := bS H; obtain ⟨t460, A16, H⟩ := H
     by_cases c17 : (t460.length : Int) = (t451.length : Int)
     ·rw [if_pos c17] at H; have c17b0 : ((t460.length : Int) == (t451.length : Int)) = true := beq_iff_eq.mpr c17; have c17b1 : ((t460.length : Int) != (t451.length : Int)) = false := bne_eq_false_iff_eq.mpr c17; have c17b2 : (t460.length == t451.length) = true := by first | simpa using c17 | (simp at c17 ⊢; omega)
      clear c17; replace H := iN H; obtain ⟨c18, H⟩ := H; have LMc18 := aM c18; clear c18; obtain ⟨y463, hy463⟩ : ∃ y_ : List Int, y_ = (x5_1 ++ [x19_1]) := ⟨_, rfl⟩; rw [← hy463] at H; have Ny463 := aM hy463; clear hy463; have H' := aM H; clear H
      try go_wp2
      replace HO_5 := aM (rD HO_5.out); replace BK449 := aM (kD BK449.out); replace HB := aM (pD HB.out)
      refine start_ (n := 9) (S := fun w' => w'.cell? ⟨gb449, 0, none⟩ = some (.int .i64 a0_0) ∧ w'.cell? ⟨gb449, 1, none⟩ = some (.slice A0_1 l0_1.length c0_1)) (ds := []) (bA 9 0) kR rfl kR ⟨vZ0 BK449, vZ1 BK449⟩ (fun hHeld => ?_); refine with_tabW impl_NeedlessClues.tab7 impl_NeedlessClues.bits7 (fun HT_ HW_ => ?_)
      generalize wr.drew = w19 at HO_5 BK449 HB hHeld ⊢
      refine pU 1 23 (bA 9 2) HT_ ?_; refine pU 3 25 (bA 9 10) HT_ ?_; refine pU 7 29 (bA 9 138) HT_ ?_
      refine tU 0 22 (bA 9 139) HT_ HW_ hHeld ?_ (hy := Or.inl ⟨by rfl, by rintro w' ⟨s0, s1⟩; go_simp; with_reducible rfl⟩)
      refine tU 2 24 (bA 9 143) HT_ HW_ hHeld ?_ (hy := Or.inl ⟨by rfl, by rintro w' ⟨s0, s1⟩; go_simp; with_reducible rfl⟩)
      refine oU 4 26 (bA 9 159) HT_ (fun K hK => ?_)
      refine goes_ Try.func37 kR rfl #[.slice A0_1 l0_1.length c0_1, .int .i64 x19_1] (by rfl) rfl rfl sQ ?_
      with_reducible refine (impl_dropped.calls _ _ l0_1 x19_1 t457 _ ?side1 ?side2 A15.out).mono ?_
      (case side1 => repeat (first | exact (Kd.C_below HR0_1.out HB.out) | (with_reducible refine cA ?_ _) | (with_reducible refine cN ?_ _) | (with_reducible refine cD ?_)))
      (case side2 => exact HC0_1.out)
      rintro e w20 ⟨v458, rfl, ho0, hb⟩; refine ⟨_, rfl, ?_⟩; have HO459 := aM (Kd.R_lower ho0 (pZ bE)); replace HO_5 := aM (Kd.R_below (by (with_reducible repeat (first | apply rA | apply rN | apply rD)); exact HO_5.out) hb); replace BK449 := bB BK449 hb; replace HB := tB HB hb
      (try clear hb); (try clear hb2); (try clear hk); (try clear hi); (try clear ho0); obtain ⟨Ao21, co21, eo21⟩ := Kd.R_slice HO459.out
      (first | subst eo21 | (injection eo21 with f1_ f2_ f3_; have f4_ := f1_.symm; have f5_ := f3_.symm; clear f1_ f2_ f3_; subst f4_; subst f5_))
      refine hK.out _ _ ⟨vZ0 BK449, vZ1 BK449⟩ (fun hHeld => ?_)
      clear hK K
      refine nU ?_
      refine oU 5 27 (bA 9 191) HT_ (fun K hK => ?_)
      refine goes_ Try.func31 kR rfl #[.agg #[.int .i64 a0_0, .slice A0_1 l0_1.length c0_1], .slice Ao21 t457.length co21] (by rfl) rfl rfl sQ ?_
      with_reducible refine (impl_Puzzle_solutions.calls k1 a0_0 _ _ l0_1 _ _ t457 t460 _ ?side1 ?side2 ?side3 ?side4 A16.out).mono ?_
      (case side1 => repeat (first | exact (Kd.C_below HR0_1.out HB.out) | (with_reducible refine cA ?_ _) | (with_reducible refine cN ?_ _) | (with_reducible refine cD ?_)))
      (case side2 => exact HC0_1.out)
      (case side3 => repeat (first | exact (rR HO459.out).2.2 | (with_reducible refine cA ?_ _) | (with_reducible refine cN ?_ _) | (with_reducible refine cD ?_)))
      (case side4 => exact (rR HO459.out).2.1)
      rintro e w22 ⟨v461, rfl, ho0, hb⟩; refine ⟨_, rfl, ?_⟩; have HO462 := aM (Kd.R_lower ho0 (pZ bE)); replace HO_5 := aM (Kd.R_below (by (with_reducible repeat (first | apply rA | apply rN | apply rD)); exact HO_5.out) hb); replace HO459 := aM (Kd.R_below (by (with_reducible repeat (first | apply rA | apply rN | apply rD)); exact HO459.out) hb); replace BK449 := bB BK449 hb; replace HB := tB HB hb
      (try clear hb); (try clear hb2); (try clear hk); (try clear hi); (try clear ho0); obtain ⟨Ao23, co23, eo23⟩ := Kd.R_slice HO462.out
      (first | subst eo23 | (injection eo23 with f1_ f2_ f3_; have f4_ := f1_.symm; have f5_ := f3_.symm; clear f1_ f2_ f3_; subst f4_; subst f5_))
      refine hK.out _ _ ⟨vZ0 BK449, vZ1 BK449⟩ (fun hHeld => ?_)
      clear hK K
      refine nU ?_
      refine pU 6 28 (bA 9 255) HT_ ?_; refine pU 8 30 (bA 9 511) HT_ ?_
      refine done_ (done_of HT_.out kR) ?_
      try go_wp2_with (first | ((with_reducible refine gate_builtin (b := .append) (xs := #[.tmp 31, .tmp 33]) rfl ?_); at_builtin; refine Kd.R_append (Kd.int .i64) (w0 := w) w.heap.size rfl (.tmp 31) (.tmp 33) 26 3 (.int .i64 0) 8 rfl Try.underlying26 info3 rfl (by decide) (by omega) u5 x5_1 x19_1 [.int .i64 x19_1] (fun _ => True) (fun _ => False) rfl rfl ?aP (fun _ hk => hk.elim) ?aF ?aO ?aB ?aS ?aL ?_; (case aP => exact rfl); (case aB => exact bE); (case aF => exact (fun _ _ => trivial)); (case aO => exact (by (with_reducible repeat (first | apply rA | apply rN | apply rD)); exact HO_5.out)); (case aS => exact (pZ bE)); (case aL => have := LMc18.out; omega); intro v464 w24 ho hb hg hat; rw [← Ny463.out] at ho; have n0_ := aM (blk_grown (g := gb449) (o := .cells #[.int .i64 a0_0, .slice A0_1 l0_1.length c0_1] 31 (0, 0)) (gQ BK449) hg (Kd.R_ne HO_5.out BK449.out (by decide))); have n1_ := aM (Kd.R_over' (by (with_reducible repeat (first | apply rA | apply rN | apply rD)); exact HO459.out) (Kd.R_typed (by (with_reducible repeat (first | apply rA | apply rN | apply rD)); exact HO_5.out)) (by decide) hg); have n2_ := aM (Kd.R_over' (by (with_reducible repeat (first | apply rA | apply rN | apply rD)); exact HO462.out) (Kd.R_typed (by (with_reducible repeat (first | apply rA | apply rN | apply rD)); exact HO_5.out)) (by decide) hg); have n3_ := aM (hb); have n4_ := aM (ho); clear BK449; clear HO459; clear HO462; clear HB; clear HO_5; have BK449 := n0_; have HO459 := n1_; have HO462 := n2_; have HB := n3_; have HO465 := n4_; clear n0_ n1_ n2_ n3_ n4_; clear ho hb hg hat))
      go_roundg k1
      case measure => have := HK1.out; omega
      case rel => exact ⟨(y463), (wrap64 (x19_1 + 1)), eQ, H', ⟨by have := HK1.out; omega⟩, ⟨by (with_reducible repeat (first | apply rA | apply rN | apply rD)); exact HO465.out⟩, ⟨gQ BK449⟩, ⟨bE⟩⟩
     ·rw [if_neg c17] at H; have c17b0 : ((t460.length : Int) == (t451.length : Int)) = false := beq_eq_false_iff_ne.mpr c17; have c17b1 : ((t460.length : Int) != (t451.length : Int)) = true := bne_iff_ne.mpr c17; have c17b2 : (t460.length == t451.length) = false := by first | simpa using c17 | (simp at c17 ⊢; omega)
      have H' := aM H; clear H
      try go_wp2
      replace HO_5 := aM (rD HO_5.out); replace BK449 := aM (kD BK449.out); replace HB := aM (pD HB.out)
      refine start_ (n := 9) (S := fun w' => w'.cell? ⟨gb449, 0, none⟩ = some (.int .i64 a0_0) ∧ w'.cell? ⟨gb449, 1, none⟩ = some (.slice A0_1 l0_1.length c0_1)) (ds := []) (bA 9 0) kR rfl kR ⟨vZ0 BK449, vZ1 BK449⟩ (fun hHeld => ?_); refine with_tabW impl_NeedlessClues.tab7 impl_NeedlessClues.bits7 (fun HT_ HW_ => ?_)
      generalize wr.drew = w25 at HO_5 BK449 HB hHeld ⊢
      refine pU 1 23 (bA 9 2) HT_ ?_; refine pU 3 25 (bA 9 10) HT_ ?_; refine pU 7 29 (bA 9 138) HT_ ?_
      refine tU 0 22 (bA 9 139) HT_ HW_ hHeld ?_ (hy := Or.inl ⟨by rfl, by rintro w' ⟨s0, s1⟩; go_simp; with_reducible rfl⟩)
      refine tU 2 24 (bA 9 143) HT_ HW_ hHeld ?_ (hy := Or.inl ⟨by rfl, by rintro w' ⟨s0, s1⟩; go_simp; with_reducible rfl⟩)
      refine oU 4 26 (bA 9 159) HT_ (fun K hK => ?_)
      refine goes_ Try.func37 kR rfl #[.slice A0_1 l0_1.length c0_1, .int .i64 x19_1] (by rfl) rfl rfl sQ ?_
      with_reducible refine (impl_dropped.calls _ _ l0_1 x19_1 t457 _ ?side1 ?side2 A15.out).mono ?_
      (case side1 => repeat (first | exact (Kd.C_below HR0_1.out HB.out) | (with_reducible refine cA ?_ _) | (with_reducible refine cN ?_ _) | (with_reducible refine cD ?_)))
      (case side2 => exact HC0_1.out)
      rintro e w26 ⟨v458, rfl, ho0, hb⟩; refine ⟨_, rfl, ?_⟩; have HO459 := aM (Kd.R_lower ho0 (pZ bE)); replace HO_5 := aM (Kd.R_below (by (with_reducible repeat (first | apply rA | apply rN | apply rD)); exact HO_5.out) hb); replace BK449 := bB BK449 hb; replace HB := tB HB hb
      (try clear hb); (try clear hb2); (try clear hk); (try clear hi); (try clear ho0); obtain ⟨Ao27, co27, eo27⟩ := Kd.R_slice HO459.out
      (first | subst eo27 | (injection eo27 with f1_ f2_ f3_; have f4_ := f1_.symm; have f5_ := f3_.symm; clear f1_ f2_ f3_; subst f4_; subst f5_))
      refine hK.out _ _ ⟨vZ0 BK449, vZ1 BK449⟩ (fun hHeld => ?_)
      clear hK K
      refine nU ?_
      refine oU 5 27 (bA 9 191) HT_ (fun K hK => ?_)
      refine goes_ Try.func31 kR rfl #[.agg #[.int .i64 a0_0, .slice A0_1 l0_1.length c0_1], .slice Ao27 t457.length co27] (by rfl) rfl rfl sQ ?_
      with_reducible refine (impl_Puzzle_solutions.calls k1 a0_0 _ _ l0_1 _ _ t457 t460 _ ?side1 ?side2 ?side3 ?side4 A16.out).mono ?_
      (case side1 => repeat (first | exact (Kd.C_below HR0_1.out HB.out) | (with_reducible refine cA ?_ _) | (with_reducible refine cN ?_ _) | (with_reducible refine cD ?_)))
      (case side2 => exact HC0_1.out)
      (case side3 => repeat (first | exact (rR HO459.out).2.2 | (with_reducible refine cA ?_ _) | (with_reducible refine cN ?_ _) | (with_reducible refine cD ?_)))
      (case side4 => exact (rR HO459.out).2.1)
      rintro e w28 ⟨v461, rfl, ho0, hb⟩; refine ⟨_, rfl, ?_⟩; have HO462 := aM (Kd.R_lower ho0 (pZ bE)); replace HO_5 := aM (Kd.R_below (by (with_reducible repeat (first | apply rA | apply rN | apply rD)); exact HO_5.out) hb); replace HO459 := aM (Kd.R_below (by (with_reducible repeat (first | apply rA | apply rN | apply rD)); exact HO459.out) hb); replace BK449 := bB BK449 hb; replace HB := tB HB hb
      (try clear hb); (try clear hb2); (try clear hk); (try clear hi); (try clear ho0); obtain ⟨Ao29, co29, eo29⟩ := Kd.R_slice HO462.out
      (first | subst eo29 | (injection eo29 with f1_ f2_ f3_; have f4_ := f1_.symm; have f5_ := f3_.symm; clear f1_ f2_ f3_; subst f4_; subst f5_))
      refine hK.out _ _ ⟨vZ0 BK449, vZ1 BK449⟩ (fun hHeld => ?_)
      clear hK K
      refine nU ?_
      refine pU 6 28 (bA 9 255) HT_ ?_; refine pU 8 30 (bA 9 511) HT_ ?_
      refine done_ (done_of HT_.out kR) ?_
      try go_wp2
      go_roundg k1
      case measure => have := HK1.out; omega
      case rel => exact ⟨(x5_1), (wrap64 (x19_1 + 1)), eQ, H', ⟨by have := HK1.out; omega⟩, ⟨by (with_reducible repeat (first | apply rA | apply rN | apply rD)); exact HO_5.out⟩, ⟨gQ BK449⟩, ⟨bE⟩⟩
    ·rw [if_neg c14] at H; have c14b0 := decide_eq_false c14; clear c14
     simp only [Option.some.injEq, Prod.mk.injEq] at H
     obtain ⟨rfl, rfl⟩ := H; go_wp2
     go_ret2
     exact ⟨_, by first | rfl | (simp [errW_none, errW_some] <;> rfl) | (simp [*, errW_none, errW_some] <;> rfl), by (with_reducible repeat (first | apply rA | apply rN | apply rD)); exact HO_5.out, bE⟩
 ·replace c3 := Bool.eq_false_iff.mpr c3; subst c3; replace H := iF H
  simp only [Option.some.injEq, Prod.mk.injEq] at H
  obtain ⟨rfl, rfl⟩ := H
  go_enter Try.func22, Try.ntmps22
  go_wp2_with (first | ((with_reducible refine gate_dst (N := 1) rfl ?_); refine bV 1 (cs := #[.int .i64 a0_0, .slice A0_1 l0_1.length c0_1]) (t := 31) rfl rfl (by first | (go_simp; done) | (go_simp; rfl)) ?_; intro gb449 hg w30 hbox hb; have BK449 := hbox; have GW449 := gZ HB hg; have GE449 := gZ HB hg; replace HB := tB HB hb; clear hb hbox hg; have hcz31_0 := vZ0 BK449; have hcz31_1 := vZ1 BK449; have hfz31_0 := kF BK449.out 0; have hfz31_1 := kF BK449.out 1) | ((with_reducible refine gC (f := 30) rfl ?_); refine goesL_ (some 8) rfl rfl Try.func30 kR rfl #[.agg #[.int .i64 a0_0, .slice A0_1 l0_1.length c0_1]] rfl sQ ?_; (with_reducible refine (impl_IsPuzzle.calls k a0_0 _ _ l0_1 false _ ?side1 ?side2 A2.out).mono ?_); (case side1 => repeat (first | exact (Kd.C_below HR0_1.out HB.out) | (with_reducible refine cA ?_ _) | (with_reducible refine cN ?_ _) | (with_reducible refine cD ?_))); (case side2 => exact HC0_1.out); rintro e w32 ⟨rfl, hb⟩; refine ⟨_, rfl, ?_⟩; replace BK449 := bB BK449 hb; replace HB := tB HB hb; (try clear hb); (try clear hb2); (try clear hk); (try clear hi)))
  go_ret2
  exact ⟨_, by first | rfl | (simp [errW_none, errW_some] <;> rfl) | (simp [*, errW_none, errW_some] <;> rfl), by first | exact Kd.R_nil _ _ _ _ _ | exact Kd.N_nil _ _ _ _ _ | exact Kd.V_nil _ _ _ _ _ | exact Kd.Q_nil _ _ _ _ _ | exact Kd.S_nil _ _ _ _ _, bE⟩

end Go.Proofs.Ytajfdfaembcodaa.X
