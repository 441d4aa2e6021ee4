-- thin
-- short
-- compact
import Derived.Test.YtoeclfihlhmnpaaXA
import Derived.Test.YtoeclfihlhmnpaaX0
import Derived.Test.YtoeclfihlhmnpaaX4
namespace Go.Proofs.Ytoeclfihlhmnpaa.X
open Go.RowKit Go.Proofs.Ytoeclfihlhmnpaa.XW Go.Proofs.YtoeclfihlhmnpaaW.PrintWords Go.Proofs.YtoeclfihlhmnpaaW.PrintLast Go.Proofs.YtoeclfihlhmnpaaW.PrintMore
attribute [local go_sem] max2_int min2_int max_two min_two max_three min_three max_four min_four   -- for this text's walks alone
set_option linter.unusedVariables false
set_option linter.unusedSimpArgs false

mutual
def spec_bdSorted.l0 : Nat → List (S_impl_Peg) → List (S_impl_Peg) → Int → Int → Option ((List (S_impl_Peg)))
 | 0, _, _, _, _ => none
 | k + 1, x3, x8, x9, x10 => if x10 < x9 then (if 0 ≤ x10 then (if x10 < (x8.length : Int) then (spec_bdSorted.l1 k x3 0 x8 x9 x10 ((rd_impl_Peg x8 x10).f0) ((rd_impl_Peg x8 x10).f1)) else (none)) else (none)) else (some x3)
def spec_bdSorted.l1 : Nat → List (S_impl_Peg) → Int → List (S_impl_Peg) → Int → Int → Int → Int → Option ((List (S_impl_Peg)))
 | 0, _, _, _, _, _, _, _ => none
 | k + 1, x3, x6, x8, x9, x10, x152000, x152001 => if x6 < (x3.length : Int) then (if 0 ≤ x6 then ((spec_pgLess.f ((rd_impl_Peg x3 x6).f0) ((rd_impl_Peg x3 x6).f1) x152000 x152001).bind fun t153 => (if t153 = true then (spec_bdSorted.l1 k x3 (wrap64 (x6 + 1)) x8 x9 x10 x152000 x152001) else ((some (([] : List (S_impl_Peg)) : List (S_impl_Peg))).bind fun y154 => (if x6 ≤ (x3.length : Int) then ((some (x3.take (x6 : Int).toNat : List (S_impl_Peg))).bind fun y157 => (if y154.length + y157.length < 8796093022208 then ((some (y154 ++ y157 : List (S_impl_Peg))).bind fun y161 => ((some (([(⟨x152000, x152001⟩ : S_impl_Peg)] : List (S_impl_Peg)) : List (S_impl_Peg))).bind fun y164 => (if y161.length + y164.length < 8796093022208 then ((some (y161 ++ y164 : List (S_impl_Peg))).bind fun y167 => ((some (x3.drop (x6 : Int).toNat : List (S_impl_Peg))).bind fun y170 => (if y167.length + y170.length < 8796093022208 then (spec_bdSorted.l0 k (y167 ++ y170) x8 x9 (wrap64 (x10 + 1))) else (none)))) else (none)))) else (none))) else (none))))) else (none)) else ((some (([] : List (S_impl_Peg)) : List (S_impl_Peg))).bind fun y177 => (if 0 ≤ x6 then (if x6 ≤ (x3.length : Int) then ((some (x3.take (x6 : Int).toNat : List (S_impl_Peg))).bind fun y180 => (if y177.length + y180.length < 8796093022208 then ((some (y177 ++ y180 : List (S_impl_Peg))).bind fun y184 => ((some (([(⟨x152000, x152001⟩ : S_impl_Peg)] : List (S_impl_Peg)) : List (S_impl_Peg))).bind fun y187 => (if y184.length + y187.length < 8796093022208 then ((some (y184 ++ y187 : List (S_impl_Peg))).bind fun y190 => ((some (x3.drop (x6 : Int).toNat : List (S_impl_Peg))).bind fun y193 => (if y190.length + y193.length < 8796093022208 then (spec_bdSorted.l0 k (y190 ++ y193) x8 x9 (wrap64 (x10 + 1))) else (none)))) else (none)))) else (none))) else (none)) else (none)))
end
def spec_bdSorted.f (k : Nat) (l0 : List (S_impl_Peg)) : Option ((List (S_impl_Peg))) := spec_bdSorted.l0 k ([] : List (S_impl_Peg)) l0 (l0.length : Int) 0
theorem spec_bdSorted.mono_l : ∀ k, (∀ y0 y1 y2 y3, LeO (spec_bdSorted.l0 k y0 y1 y2 y3) (spec_bdSorted.l0 (k + 1) y0 y1 y2 y3)) ∧ (∀ y0 y1 y2 y3 y4 y5 y6, LeO (spec_bdSorted.l1 k y0 y1 y2 y3 y4 y5 y6) (spec_bdSorted.l1 (k + 1) y0 y1 y2 y3 y4 y5 y6))
 | 0 => ⟨fun _ _ _ _ r h => by simp [spec_bdSorted.l0] at h, fun _ _ _ _ _ _ _ r h => by simp [spec_bdSorted.l1] at h⟩
 | k + 1 => by
  obtain ⟨ih0, ih1⟩ := spec_bdSorted.mono_l k
  refine ⟨?_, ?_⟩ <;> intros <;> (first | unfold spec_bdSorted.l0 | unfold spec_bdSorted.l1) <;> repeat' first | (with_reducible exact ih0 _ _ _ _) | (with_reducible exact ih1 _ _ _ _ _ _ _) | (with_reducible exact LeO.refl _) | (with_reducible exact LeO.none _) | (with_reducible refine LeO.ite ?_ ?_) | (with_reducible refine LeO.bind ?_ (fun _ => ?_)) | exact ih0 _ _ _ _ | exact ih1 _ _ _ _ _ _ _ | exact LeO.none _ | refine LeO.ite ?_ ?_ | refine LeO.bind ?_ (fun _ => ?_)
theorem spec_bdSorted.mono : ∀ a0 k, LeO (spec_bdSorted.f k a0) (spec_bdSorted.f (k + 1) a0) := by
 intro a0 k
 obtain ⟨ih0, ih1⟩ := spec_bdSorted.mono_l k
 unfold spec_bdSorted.f
 repeat' first | (with_reducible exact ih0 _ _ _ _) | (with_reducible exact ih1 _ _ _ _ _ _ _) | (with_reducible exact LeO.refl _) | (with_reducible exact LeO.none _) | (with_reducible refine LeO.ite ?_ ?_) | (with_reducible refine LeO.bind ?_ (fun _ => ?_)) | exact ih0 _ _ _ _ | exact ih1 _ _ _ _ _ _ _ | exact LeO.none _ | refine LeO.ite ?_ ?_ | refine LeO.bind ?_ (fun _ => ?_)
def spec_bdSorted.T6 : Bool × List (List Nat × List Nat) := (true, [([], []), ([], []), ([1], [1]), ([0, 2], [0, 2]), ([3], [3]), ([4], [4]), ([4], [4]), ([5, 6, 4], [4, 5, 6]), ([7, 4], [4, 7]), ([4], [4]), ([8, 9, 4, 4], [4, 8, 9]), ([4, 10], [4, 10])])
def spec_bdSorted.B6 : List Nat := [0, 0, 2, 7, 15, 31, 31, 127, 255, 31, 1023, 2047]
theorem spec_bdSorted.tab6 : rtab .any (opsOf Try.f79 6) = spec_bdSorted.T6 := by kernel_rfl
theorem spec_bdSorted.bits6 : waitsOk spec_bdSorted.T6.2 spec_bdSorted.B6 = true := by kernel_rfl
def spec_bdSorted.T8 : Bool × List (List Nat × List Nat) := (true, [([], []), ([], []), ([], []), ([1, 2], [1, 2]), ([0, 3], [0, 3]), ([], []), ([5], [5]), ([4, 6, 4], [4, 6]), ([7, 7, 0, 1, 2, 3, 4, 5, 6, 7], [7])])
def spec_bdSorted.B8 : List Nat := [0, 0, 0, 6, 15, 0, 32, 127, 255]
theorem spec_bdSorted.tab8 : rtab .any (opsOf Try.f79 8) = spec_bdSorted.T8 := by kernel_rfl
theorem spec_bdSorted.bits8 : waitsOk spec_bdSorted.T8.2 spec_bdSorted.B8 = true := by kernel_rfl
set_option maxHeartbeats 8000000 in
set_option maxRecDepth 100000 in
theorem spec_bdSorted.calls (k : Nat) (A0 : Option Addr) (c0 : Nat) (l0 : List (S_impl_Peg)) (r : List (S_impl_Peg)) (w : World) (hr0 : Kd.C kd_impl_Peg w A0 l0.length l0) (hc0 : l0.length ≤ c0) (h : spec_bdSorted.f k l0 = some r) :
  Calls Try.prog 79 #[.slice A0 l0.length c0] w fun e w' => ∃ v0_ : Value, e = .returned (v0_) ∧ Kd.R kd_impl_Peg 41 w' w.heap.size (fun _ => True) v0_ r ∧ Below w.heap.size w w' := by
 have hu41 := Try.underlying41; have HR0 := aM hr0; have HC0 := aM hc0; clear hr0 hc0; have HB := aM (Below.refl w.heap.size w)
 unfold spec_bdSorted.f at h; have H := h; clear h
 have H' := aM H; clear H
 go_enter Try.func79, Try.ntmps79
 go_wp2
 go_loopg [3, 10] k (fun kq v3 v10 w' => ∃ (x3_1 : List (S_impl_Peg)) (x10_1 : Int), v10 = .int .i64 x10_1 ∧ Aside0 (spec_bdSorted.l0 kq x3_1 l0 (l0.length : Int) x10_1 = some r) ∧ Aside0 (kq ≤ k) ∧ Aside0 (Kd.R kd_impl_Peg 41 w' w.heap.size (fun _ => True) v3 x3_1) ∧ Aside0 (Below w.heap.size w w'))
 case atStart => exact ⟨(([] : List (S_impl_Peg))), (0), eQ, H', ⟨Nat.le_refl _⟩, ⟨by first | exact Kd.R_nil _ _ _ _ _ | exact Kd.N_nil _ _ _ _ _ | exact Kd.V_nil _ _ _ _ _ | exact Kd.Q_nil _ _ _ _ _ | exact Kd.S_nil _ _ _ _ _⟩, ⟨bQ⟩⟩
 case round =>
  clear H'; obtain ⟨x3_1, x10_1, rfl, HA, HK1, HO_3, HB⟩ := hrel
  cases gk with
  | zero => exact absurd HA.out (by simp [spec_bdSorted.l0])
  | succ k1 =>
   have H := HA.out; clear HA
   simp only [spec_bdSorted.l0] at H
   by_cases c2 : x10_1 < (l0.length : Int)
   ·rw [if_pos c2] at H; have c2b0 := dE c2; clear c2; replace H := iD H; obtain ⟨c3b0, H⟩ := H; replace H := iD H; obtain ⟨c4b0, H⟩ := H; have H' := aM H; clear H; have p150 : 0 ≤ (x10_1 : Int) := dT aQ; have q150 : x10_1 < (l0.length : Int) := dT aQ; obtain ⟨ad150, e150, hx150_0, hx150_1⟩ := at_impl_Peg HR0.out x10_1 p150 q150
    cases e150
    replace hx150_0 := hC HB hx150_0; replace hx150_1 := hC HB hx150_1; replace p150 := eq_true p150; replace q150 := eq_true q150
    go_wp2_with (first | ((with_reducible refine gate_dst (N := 5) rfl ?_); refine bV 5 (cs := #[.int .i64 0, .int .i64 0]) (t := 41) rfl rfl (by first | (go_simp; done) | (go_simp; rfl)) ?_; intro gb151 hg w5 hbox hb; have BK151 := hbox; have GW151 := gZ HB hg; have GE151 := gZ HB hg; replace HO_3 := aM (Kd.R_below (Kd.R_elderB (by (with_reducible repeat (first | apply rA | apply rN | apply rD)); exact HO_3.out) gb151 (Nat.le_of_eq hg.symm)) hb); replace HB := tB HB hb; clear hb hbox hg; have hcz6_0 := vZ0 BK151; have hcz6_1 := vZ1 BK151; have hfz6_0 := kF BK151.out 0; have hfz6_1 := kF BK151.out 1))
    go_loopg [6] k1 (fun kq v6 w' => ∃ (x6_2 : Int), v6 = .int .i64 x6_2 ∧ Aside0 (spec_bdSorted.l1 kq x3_1 x6_2 l0 (l0.length : Int) x10_1 ((rd_impl_Peg l0 x10_1).f0) ((rd_impl_Peg l0 x10_1).f1) = some r) ∧ Aside0 (kq ≤ k1) ∧ Aside0 (Kd.R kd_impl_Peg 41 w' w.heap.size (fun k_ => k_ ≠ gb151) u3 x3_1) ∧ Aside0 (w'.heap[gb151]? = some (.cells #[.int .i64 ((rd_impl_Peg l0 x10_1).f0), .int .i64 ((rd_impl_Peg l0 x10_1).f1)] 41 (0, 0))) ∧ Aside0 (Below w.heap.size w w'))
    case atStart => exact ⟨(0), eQ, H', ⟨Nat.le_refl _⟩, ⟨by (with_reducible repeat (first | apply rA | apply rN | apply rD)); exact Kd.R_mono (Kd.R_far (p := ⟨gb151, 1, none⟩) (Kd.R_far (p := ⟨gb151, 0, none⟩) (Kd.R_mono HO_3.out (fun k_ hk => (⟨hk, hk.2⟩ : _ ∧ k_ ≠ gb151))) (fun _ hk => hk.2) (.int .i64 ((rd_impl_Peg l0 x10_1).f0))) (fun _ hk => hk.2) (.int .i64 ((rd_impl_Peg l0 x10_1).f1))) (fun _ hk => hk.1.2)⟩, ⟨fQ BK151⟩, ⟨bE⟩⟩
    case round =>
     clear H'; (try clear c2); (try clear c2b0); (try clear c3b0); (try clear c4b0); (try clear hcz6_0); (try clear hcz6_1); (try clear hfz6_0); (try clear hfz6_1); (try clear hx150_0); (try clear hx150_1); (try clear p150); (try clear q150); obtain ⟨x6_2, rfl, HA, HK2, HO_3, BK151, HB⟩ := hrel
     cases gk with
     | zero => exact absurd HA.out (by simp [spec_bdSorted.l1])
     | succ k2 =>
      have H := HA.out; clear HA
      simp only [spec_bdSorted.l1] at H
      by_cases c7 : x6_2 < (x3_1.length : Int)
      ·rw [if_pos c7] at H; have c7b0 := dE c7; clear c7; replace H := iD H; obtain ⟨c8b0, H⟩ := H; replace H := bS H; obtain ⟨t153, A9, H⟩ := H
       by_cases c10 : t153 = true
       ·subst c10; replace H := iT H; have H' := aM H; clear H
        try go_wp2
        replace HO_3 := aM (rD HO_3.out); replace BK151 := aM (kD BK151.out); replace HB := aM (pD HB.out); obtain ⟨Ao12, co12, eo12⟩ := Kd.R_slice HO_3.out
        (first | subst eo12 | (injection eo12 with f1_ f2_ f3_; have f4_ := f1_.symm; have f5_ := f3_.symm; clear f1_ f2_ f3_; subst f4_; subst f5_))
        have p152 : 0 ≤ (x6_2 : Int) := dT aQ; have q152 : x6_2 < (x3_1.length : Int) := dT aQ; obtain ⟨ad152, e152, hx152_0, hx152_1⟩ := at_impl_Peg (rR HO_3.out).2.2 x6_2 p152 q152
        cases e152
        replace p152 := eq_true p152; replace q152 := eq_true q152
        refine start_ (n := 12) (S := fun w' => w'.cell? ⟨gb151, 0, none⟩ = some (.int .i64 ((rd_impl_Peg l0 x10_1).f0)) ∧ w'.cell? ⟨gb151, 1, none⟩ = some (.int .i64 ((rd_impl_Peg l0 x10_1).f1)) ∧ w'.cell? (ad152.add ((x6_2).toNat * 2)) = some (.int .i64 ((rd_impl_Peg x3_1 x6_2).f0)) ∧ w'.cell? ⟨(ad152.add ((x6_2).toNat * 2)).block, (ad152.add ((x6_2).toNat * 2)).off + 1, none⟩ = some (.int .i64 ((rd_impl_Peg x3_1 x6_2).f1))) (ds := []) (bA 12 0) kR rfl kR ⟨vZ0 BK151, vZ1 BK151, hx152_0, hx152_1⟩ (fun hHeld => ?_); refine with_tabW spec_bdSorted.tab6 spec_bdSorted.bits6 (fun HT_ HW_ => ?_)
        generalize wr.drew = w11 at HO_3 BK151 HB hx152_0 hx152_1 hHeld ⊢
        refine pU 0 14 (bA 12 1) HT_ ?_; refine pU 1 15 (bA 12 3) HT_ ?_; refine pU 2 16 (bA 12 7) HT_ ?_; refine pU 3 17 (bA 12 15) HT_ ?_; refine pU 4 18 (bA 12 31) HT_ ?_; refine pU 5 19 (bA 12 63) HT_ ?_; refine pU 6 20 (bA 12 127) HT_ ?_; refine pU 7 21 (bA 12 255) HT_ ?_
        refine tU 8 22 (bA 12 511) HT_ HW_ hHeld ?_ (hy := Or.inl ⟨by rfl, by rintro w' ⟨s0, s1, s2, s3⟩; go_simp; with_reducible rfl⟩)
        refine tU 9 23 (bA 12 1023) HT_ HW_ hHeld ?_ (hy := Or.inl ⟨by rfl, by rintro w' ⟨s0, s1, s2, s3⟩; go_simp; with_reducible rfl⟩)
        refine oU 10 24 (bA 12 2047) HT_ (fun K hK => ?_)
        refine goes_ Try.func106 kR rfl #[.agg #[.int .i64 ((rd_impl_Peg x3_1 x6_2).f0), .int .i64 ((rd_impl_Peg x3_1 x6_2).f1)], .agg #[.int .i64 ((rd_impl_Peg l0 x10_1).f0), .int .i64 ((rd_impl_Peg l0 x10_1).f1)]] (by rfl) rfl rfl sQ ?_
        with_reducible refine (spec_pgLess.calls ((rd_impl_Peg x3_1 x6_2).f0) ((rd_impl_Peg x3_1 x6_2).f1) ((rd_impl_Peg l0 x10_1).f0) ((rd_impl_Peg l0 x10_1).f1) true _ A9.out).mono ?_
        rintro e w13 ⟨rfl, hb⟩; have HS2_ := (hb.cell (wB _ _ (hHeld.2.2.1))).trans (hHeld.2.2.1); have HS3_ := (hb.cell (wB _ _ (hHeld.2.2.2))).trans (hHeld.2.2.2); refine ⟨_, rfl, ?_⟩; replace HO_3 := aM (Kd.R_below (by (with_reducible repeat (first | apply rA | apply rN | apply rD)); exact HO_3.out) hb); replace BK151 := bB BK151 hb; replace HB := tB HB hb
        (try clear hb); (try clear hb2); (try clear hk); (try clear hi)
        refine hK.out _ _ ⟨vZ0 BK151, vZ1 BK151, HS2_, HS3_⟩ (fun hHeld => ?_)
        clear hK K
        refine nU ?_
        refine pU 11 25 (bA 12 4095) HT_ ?_
        refine done_ (done_of HT_.out kR) ?_
        try go_wp2
        go_roundg k2
        case measure => have := HK1.out; have := HK2.out; omega
        case rel => exact ⟨(wrap64 (x6_2 + 1)), eQ, H', ⟨by have := HK1.out; have := HK2.out; omega⟩, ⟨by (with_reducible repeat (first | apply rA | apply rN | apply rD)); exact HO_3.out⟩, ⟨gQ BK151⟩, ⟨bE⟩⟩
       ·replace c10 := Bool.eq_false_iff.mpr c10; subst c10; replace H := iF H; replace H := lS H; obtain ⟨y154, Ny154, H⟩ := H; have c14b0 := eq_true (dT aQ : 0 ≤ x6_2); replace H := iN H; obtain ⟨c15, H⟩ := H; have c15b0 := eq_true c15; have c15b1 := dE c15; clear c15; replace H := lS H; obtain ⟨y157, Ny157, H⟩ := H; replace H := iN H; obtain ⟨c16, H⟩ := H; have LMc16 := aM c16; clear c16; replace H := lS H; obtain ⟨y161, Ny161, H⟩ := H; replace H := lS H; obtain ⟨y164, Ny164, H⟩ := H; replace H := iN H; obtain ⟨c17, H⟩ := H; have LMc17 := aM c17; clear c17; replace H := lS H; obtain ⟨y167, Ny167, H⟩ := H; have c18b0 := eq_true (dT aQ : 0 ≤ x6_2); have c19b0 := eq_true (dT aQ : x6_2 ≤ (x3_1.length : Int)); replace H := lS H; obtain ⟨y170, Ny170, H⟩ := H; replace H := iN H; obtain ⟨c20, H⟩ := H; have LMc20 := aM c20; clear c20; obtain ⟨y174, hy174⟩ : ∃ y_ : List (S_impl_Peg), y_ = (y167 ++ y170) := ⟨_, rfl⟩; rw [← hy174] at H; have Ny174 := aM hy174; clear hy174; have H' := aM H; clear H
        try go_wp2
        replace HO_3 := aM (rD HO_3.out); replace BK151 := aM (kD BK151.out); replace HB := aM (pD HB.out); obtain ⟨Ao22, co22, eo22⟩ := Kd.R_slice HO_3.out
        (first | subst eo22 | (injection eo22 with f1_ f2_ f3_; have f4_ := f1_.symm; have f5_ := f3_.symm; clear f1_ f2_ f3_; subst f4_; subst f5_))
        have p152 : 0 ≤ (x6_2 : Int) := dT aQ; have q152 : x6_2 < (x3_1.length : Int) := dT aQ; obtain ⟨ad152, e152, hx152_0, hx152_1⟩ := at_impl_Peg (rR HO_3.out).2.2 x6_2 p152 q152
        cases e152
        replace p152 := eq_true p152; replace q152 := eq_true q152
        refine start_ (n := 12) (S := fun w' => w'.cell? ⟨gb151, 0, none⟩ = some (.int .i64 ((rd_impl_Peg l0 x10_1).f0)) ∧ w'.cell? ⟨gb151, 1, none⟩ = some (.int .i64 ((rd_impl_Peg l0 x10_1).f1)) ∧ w'.cell? (ad152.add ((x6_2).toNat * 2)) = some (.int .i64 ((rd_impl_Peg x3_1 x6_2).f0)) ∧ w'.cell? ⟨(ad152.add ((x6_2).toNat * 2)).block, (ad152.add ((x6_2).toNat * 2)).off + 1, none⟩ = some (.int .i64 ((rd_impl_Peg x3_1 x6_2).f1))) (ds := []) (bA 12 0) kR rfl kR ⟨vZ0 BK151, vZ1 BK151, hx152_0, hx152_1⟩ (fun hHeld => ?_); refine with_tabW spec_bdSorted.tab6 spec_bdSorted.bits6 (fun HT_ HW_ => ?_)
        generalize wr.drew = w21 at HO_3 BK151 HB hx152_0 hx152_1 hHeld ⊢
        refine pU 0 14 (bA 12 1) HT_ ?_; refine pU 1 15 (bA 12 3) HT_ ?_; refine pU 2 16 (bA 12 7) HT_ ?_; refine pU 3 17 (bA 12 15) HT_ ?_; refine pU 4 18 (bA 12 31) HT_ ?_; refine pU 5 19 (bA 12 63) HT_ ?_; refine pU 6 20 (bA 12 127) HT_ ?_; refine pU 7 21 (bA 12 255) HT_ ?_
        refine tU 8 22 (bA 12 511) HT_ HW_ hHeld ?_ (hy := Or.inl ⟨by rfl, by rintro w' ⟨s0, s1, s2, s3⟩; go_simp; with_reducible rfl⟩)
        refine tU 9 23 (bA 12 1023) HT_ HW_ hHeld ?_ (hy := Or.inl ⟨by rfl, by rintro w' ⟨s0, s1, s2, s3⟩; go_simp; with_reducible rfl⟩)
        refine oU 10 24 (bA 12 2047) HT_ (fun K hK => ?_)
        refine goes_ Try.func106 kR rfl #[.agg #[.int .i64 ((rd_impl_Peg x3_1 x6_2).f0), .int .i64 ((rd_impl_Peg x3_1 x6_2).f1)], .agg #[.int .i64 ((rd_impl_Peg l0 x10_1).f0), .int .i64 ((rd_impl_Peg l0 x10_1).f1)]] (by rfl) rfl rfl sQ ?_
        with_reducible refine (spec_pgLess.calls ((rd_impl_Peg x3_1 x6_2).f0) ((rd_impl_Peg x3_1 x6_2).f1) ((rd_impl_Peg l0 x10_1).f0) ((rd_impl_Peg l0 x10_1).f1) false _ A9.out).mono ?_
        rintro e w23 ⟨rfl, hb⟩; have HS2_ := (hb.cell (wB _ _ (hHeld.2.2.1))).trans (hHeld.2.2.1); have HS3_ := (hb.cell (wB _ _ (hHeld.2.2.2))).trans (hHeld.2.2.2); refine ⟨_, rfl, ?_⟩; replace HO_3 := aM (Kd.R_below (by (with_reducible repeat (first | apply rA | apply rN | apply rD)); exact HO_3.out) hb); replace BK151 := bB BK151 hb; replace HB := tB HB hb
        (try clear hb); (try clear hb2); (try clear hk); (try clear hi)
        refine hK.out _ _ ⟨vZ0 BK151, vZ1 BK151, HS2_, HS3_⟩ (fun hHeld => ?_)
        clear hK K
        refine nU ?_
        refine pU 11 25 (bA 12 4095) HT_ ?_
        refine done_ (done_of HT_.out kR) ?_
        try go_wp2
        replace HO_3 := aM (rD HO_3.out); replace BK151 := aM (kD BK151.out); replace HB := aM (pD HB.out); have q25 : (x6_2 : Int) ≤ ((x3_1.length : Int) : Int) := dT aQ; obtain ⟨i025, hi025, _, hsz25, _⟩ := info_parts info41; have hroom25 : x3_1.length ≤ co22 := (rR HO_3.out).2.1; have hC25 : Kd.C kd_impl_Peg _ (some ad152) x3_1.length x3_1 := (rR HO_3.out).2.2; have hcut25 := cut_to (P := Try.prog) 26 41 .i64 Try.underlying26 hi025 (some ad152) x3_1.length co22 x6_2 (dT aQ) q25 hroom25; have hr25 := Kd.C_take (m := (x6_2 : Int).toNat) hC25 (by omega)
        have hy25 : y157.length = (x6_2 : Int).toNat := (by rw [Ny157.out, lT]; omega)
        rw [← Ny157.out] at hr25; rw [← hy25] at hcut25; have HR160 := aM hr25; have HC160 := aM (show y157.length ≤ co22 from by omega)
        clear hr25 hC25 hroom25 hi025 hsz25; have KY25 := aM hy25; clear hy25; have KL25 := aM (show (x6_2 : Int).toNat ≤ x3_1.length from by omega)
        replace q25 := eq_true q25
        refine start_ (n := 9) (S := fun w' => w'.cell? ⟨gb151, 0, none⟩ = some (.int .i64 ((rd_impl_Peg l0 x10_1).f0)) ∧ w'.cell? ⟨gb151, 1, none⟩ = some (.int .i64 ((rd_impl_Peg l0 x10_1).f1))) (ds := []) (bA 9 0) kR rfl kR ⟨vZ0 BK151, vZ1 BK151⟩ (fun hHeld => ?_); refine with_tabW spec_bdSorted.tab8 spec_bdSorted.bits8 (fun HT_ HW_ => ?_)
        generalize w23.drew = w24 at HO_3 BK151 HB HR160 hHeld ⊢
        refine pU 1 29 (bA 9 2) HT_ ?_; refine pU 2 30 (bA 9 6) HT_ ?_; refine pU 3 31 (bA 9 14) HT_ ?_
        refine tU 5 33 (bA 9 46) HT_ HW_ hHeld ?_ (hy := Or.inl ⟨by rfl, by rintro w' ⟨s0, s1⟩; go_simp; with_reducible rfl⟩)
        refine join_ (σ := Value × Value × Value) 2 (bA 9 127) (fun s_ => [(28, s_.1), (32, s_.2.1), (34, s_.2.2)]) (fun s_ w' => (w'.cell? ⟨gb151, 0, none⟩ = some (.int .i64 ((rd_impl_Peg l0 x10_1).f0)) ∧ w'.cell? ⟨gb151, 1, none⟩ = some (.int .i64 ((rd_impl_Peg l0 x10_1).f1))) ∧ (Kd.R kd_impl_Peg 41 w' w.heap.size (fun k_ => some k_ ≠ (s_.2.2 : Value).ownBlock ∧ some k_ ≠ (.slice (some ad152) x3_1.length co22 : Value).ownBlock ∧ k_ ≠ gb151) s_.2.1 y161) ∧ (Kd.R kd_impl_Peg 41 w' w.heap.size (fun k_ => some k_ ≠ (s_.2.1 : Value).ownBlock ∧ some k_ ≠ (.slice (some ad152) x3_1.length co22 : Value).ownBlock ∧ k_ ≠ gb151) s_.2.2 y164) ∧ (Kd.R kd_impl_Peg 41 w' w.heap.size (fun k_ => some k_ ≠ (s_.2.1 : Value).ownBlock ∧ some k_ ≠ (s_.2.2 : Value).ownBlock ∧ k_ ≠ gb151) (.slice (some ad152) x3_1.length co22) x3_1) ∧ (w'.heap[gb151]? = some (.cells #[.int .i64 ((rd_impl_Peg l0 x10_1).f0), .int .i64 ((rd_impl_Peg l0 x10_1).f1)] 41 (0, 0))) ∧ (Below w.heap.size w w')) ?_ ?_
        rotate_left
        ·intro hCont
         refine two_ (i := 0) (j := 6) (Ni := some 28) (Nj := some 34) (bA 9 47) (bA 9 110) rfl rfl rfl rfl (two_of HT_.out kR) (by decide) (by decide) (fun K hK => ?_) (fun K hK => ?_)
         ·skip
          refine Kd.R_lit_step kd_impl_Peg _ 41 ?hg (N := 28) ?hd (xs := ([] : List (S_impl_Peg))) (inner := []) (ok := fun _ => True) (okp := fun _ => True) ?hr ?hp (fun _ hk => hk) trivial (Below.refl _ _) (Nat.le_refl _) (by simp) ?_; (case hd => rfl); (case hg => rfl); (case hr => first | (go_simp; done) | (go_simp; rfl)); (case hp => exact (Reps.none _ _))
          intro v155 w26 ho27 hb hg_ hnew_
          clear hg_ hnew_
          (first | rw [← Ny154.out] at ho27 | (simp only [Int.reduceToNat] at ho27; rw [← Ny154.out] at ho27))
          have HO156 := aM (Kd.R_lower (Kd.R_newB (Kd.R_new' ho27 (Kd.R_lt (by (with_reducible repeat (first | apply rA | apply rN | apply rD)); exact HO_3.out))) (g := gb151) (o := .cells #[.int .i64 ((rd_impl_Peg l0 x10_1).f0), .int .i64 ((rd_impl_Peg l0 x10_1).f1)] 41 (0, 0)) (gQ BK151)) (pZ bE)); replace HO_3 := aM (Kd.R_elder' (by (with_reducible repeat (first | apply rA | apply rN | apply rD)); exact HO_3.out) (Kd.R_base ho27) hb); replace BK151 := bB BK151 hb; replace HR160 := aM (Kd.C_below (by repeat (first | (with_reducible exact HR160.out) | (with_reducible refine cA ?_ _) | (with_reducible refine cN ?_ _) | (with_reducible refine cD ?_) | exact HR160.out)) hb); replace HB := tB HB hb
          clear hb ho27
          refine hK.out _ _ ⟨vZ0 BK151, vZ1 BK151⟩ (fun hHeld => ?_)
          clear hK K
          refine nU ?_
          refine two_ (i := 4) (j := 6) (Ni := some 32) (Nj := some 34) (bA 9 63) (bA 9 111) rfl rfl rfl rfl (two_of HT_.out kR) (by decide) (by decide) (fun K hK => ?_) (fun K hK => ?_)
          ·skip
           refine Kd.R_append_rows_step kd_impl_Peg (w0 := w) w.heap.size (by rfl) (.tmp 28) (.tmp 31) 26 41 (.agg #[(.int .i64 0), (.int .i64 0)]) 16 rfl Try.underlying26 info41 rfl (by decide) (by omega) v155 y154 y157 _ _ _ (fun k_ => some k_ ≠ (.slice (some ad152) x3_1.length co22 : Value).ownBlock ∧ k_ ≠ gb151) (fun _ => False) rfl rfl ?aO ?aR (fun _ _ h => h) (fun _ h => h.elim) ?aF ?aB ?aS ?aL ?_
           (case aR => repeat (first | exact (by repeat (first | (with_reducible exact HR160.out) | (with_reducible refine cA ?_ _) | (with_reducible refine cN ?_ _) | (with_reducible refine cD ?_) | exact HR160.out)) | (with_reducible refine cA ?_ _) | (with_reducible refine cN ?_ _) | (with_reducible refine cD ?_)))
           (case aB => exact bE)
           (case aF => exact (fun k_ hk => ⟨Kd.fresh' (Kd.R_lt (by (with_reducible repeat (first | apply rA | apply rN | apply rD)); exact HO_3.out)) k_ hk, Kd.freshB (g := gb151) (o := .cells #[.int .i64 ((rd_impl_Peg l0 x10_1).f0), .int .i64 ((rd_impl_Peg l0 x10_1).f1)] 41 (0, 0)) (gQ BK151) k_ hk⟩))
           (case aO => exact (by (with_reducible repeat (first | apply rA | apply rN | apply rD)); exact Kd.R_mono HO156.out (fun _ hk => ⟨hk.1.2, hk.2⟩)))
           (case aS => exact (pZ bE))
           (case aL => have := LMc16.out; omega)
           intro v162 w28 ho hb hg hat
           rw [← Ny161.out] at ho; have n0_ := aM (Kd.R_after (ok := (fun k_ => k_ ≠ gb151)) (by (with_reducible repeat (first | apply rA | apply rN | apply rD)); exact HO_3.out) hg hat)
           have n1_ := aM (blk_grown (g := gb151) (o := .cells #[.int .i64 ((rd_impl_Peg l0 x10_1).f0), .int .i64 ((rd_impl_Peg l0 x10_1).f1)] 41 (0, 0)) (gQ BK151) hg (Kd.R_away HO156.out (fun _ hk => hk.2))); have n2_ := aM (hb); have n3_ := aM ((show Kd.C kd_impl_Peg w28 (some ad152) y157.length y157 from by rw [Ny157.out]; exact Kd.C_take (m := (x6_2 : Int).toNat) ((rR (Kd.R_after (ok := (fun k_ => k_ ≠ gb151)) (by (with_reducible repeat (first | apply rA | apply rN | apply rD)); exact HO_3.out) hg hat)).2.2) KL25.out))
           have n4_ := aM (ho); clear HO_3; clear BK151; clear HB; clear HR160; clear HO156; have HO_3 := n0_; have BK151 := n1_; have HB := n2_; have HR160 := n3_; have HO163 := n4_; clear n0_ n1_ n2_ n3_ n4_; clear ho hb hg hat
           refine hK.out _ _ ⟨vZ0 BK151, vZ1 BK151⟩ (fun hHeld => ?_)
           clear hK K
           refine nU ?_
           refine oU 6 34 (bA 9 127) HT_ (fun K hK => ?_)
           refine Kd.R_lit_step kd_impl_Peg _ 41 ?hg (N := 34) ?hd (xs := ([(⟨((rd_impl_Peg l0 x10_1).f0), ((rd_impl_Peg l0 x10_1).f1)⟩ : S_impl_Peg)] : List (S_impl_Peg))) (inner := [.int .i64 ((rd_impl_Peg l0 x10_1).f0), .int .i64 ((rd_impl_Peg l0 x10_1).f1)]) (ok := fun _ => True) (okp := fun _ => True) ?hr ?hp (fun _ hk => hk) trivial (Below.refl _ _) (Nat.le_refl _) (by simp) ?_; (case hd => rfl); (case hg => rfl); (case hr => first | (go_simp; done) | (go_simp; rfl)); (case hp => exact (Reps.c2 (show Kd.M kd_impl_Peg _ _ _ (⟨((rd_impl_Peg l0 x10_1).f0), ((rd_impl_Peg l0 x10_1).f1)⟩ : S_impl_Peg) [.int .i64 ((rd_impl_Peg l0 x10_1).f0), .int .i64 ((rd_impl_Peg l0 x10_1).f1)] from (kd_impl_Peg_mkM _ _ _ (⟨((rd_impl_Peg l0 x10_1).f0), ((rd_impl_Peg l0 x10_1).f1)⟩ : S_impl_Peg) )) (Reps.none _ _)))
           intro v165 w29 ho30 hb hg_ hnew_
           clear hg_ hnew_
           (first | rw [← Ny164.out] at ho30 | (simp only [Int.reduceToNat] at ho30; rw [← Ny164.out] at ho30))
           have HO166 := aM (Kd.R_lower (Kd.R_newB (Kd.R_new' (Kd.R_new' ho30 (Kd.R_lt (by (with_reducible repeat (first | apply rA | apply rN | apply rD)); exact HO_3.out))) (Kd.R_lt (by (with_reducible repeat (first | apply rA | apply rN | apply rD)); exact HO163.out))) (g := gb151) (o := .cells #[.int .i64 ((rd_impl_Peg l0 x10_1).f0), .int .i64 ((rd_impl_Peg l0 x10_1).f1)] 41 (0, 0)) (gQ BK151)) (pZ bE)); replace HO_3 := aM (Kd.R_elder' (by (with_reducible repeat (first | apply rA | apply rN | apply rD)); exact HO_3.out) (Kd.R_base ho30) hb); replace HO163 := aM (Kd.R_elder' (by (with_reducible repeat (first | apply rA | apply rN | apply rD)); exact HO163.out) (Kd.R_base ho30) hb); replace BK151 := bB BK151 hb; replace HR160 := aM (Kd.C_below (by repeat (first | (with_reducible exact HR160.out) | (with_reducible refine cA ?_ _) | (with_reducible refine cN ?_ _) | (with_reducible refine cD ?_) | exact HR160.out)) hb); replace HB := tB HB hb
           clear hb ho30
           refine hK.out _ _ ⟨vZ0 BK151, vZ1 BK151⟩ (fun hHeld => ?_)
           clear hK K
           refine nU ?_
           exact norm_ (by simp only [putAll, Act.put, sI, sZ, sS]) (hCont (v155, v162, v165) _ ⟨hHeld, (by (with_reducible repeat (first | apply rA | apply rN | apply rD)); exact Kd.R_mono HO163.out (fun _ hk => ⟨hk.2, ⟨hk.1.1, hk.1.2⟩⟩)), (by (with_reducible repeat (first | apply rA | apply rN | apply rD)); exact Kd.R_mono HO166.out (fun _ hk => ⟨hk.1.2, ⟨hk.1.1.2, hk.2⟩⟩)), (by (with_reducible repeat (first | apply rA | apply rN | apply rD)); exact Kd.R_mono HO_3.out (fun _ hk => ⟨hk.1.2, ⟨hk.2, hk.1.1⟩⟩)), (gQ BK151), bE⟩)
          ·skip
           refine Kd.R_lit_step kd_impl_Peg _ 41 ?hg (N := 34) ?hd (xs := ([(⟨((rd_impl_Peg l0 x10_1).f0), ((rd_impl_Peg l0 x10_1).f1)⟩ : S_impl_Peg)] : List (S_impl_Peg))) (inner := [.int .i64 ((rd_impl_Peg l0 x10_1).f0), .int .i64 ((rd_impl_Peg l0 x10_1).f1)]) (ok := fun _ => True) (okp := fun _ => True) ?hr ?hp (fun _ hk => hk) trivial (Below.refl _ _) (Nat.le_refl _) (by simp) ?_; (case hd => rfl); (case hg => rfl); (case hr => first | (go_simp; done) | (go_simp; rfl)); (case hp => exact (Reps.c2 (show Kd.M kd_impl_Peg _ _ _ (⟨((rd_impl_Peg l0 x10_1).f0), ((rd_impl_Peg l0 x10_1).f1)⟩ : S_impl_Peg) [.int .i64 ((rd_impl_Peg l0 x10_1).f0), .int .i64 ((rd_impl_Peg l0 x10_1).f1)] from (kd_impl_Peg_mkM _ _ _ (⟨((rd_impl_Peg l0 x10_1).f0), ((rd_impl_Peg l0 x10_1).f1)⟩ : S_impl_Peg) )) (Reps.none _ _)))
           intro v165 w28 ho29 hb hg_ hnew_
           clear hg_ hnew_
           (first | rw [← Ny164.out] at ho29 | (simp only [Int.reduceToNat] at ho29; rw [← Ny164.out] at ho29))
           have HO166 := aM (Kd.R_lower (Kd.R_newB (Kd.R_new' (Kd.R_new' ho29 (Kd.R_lt (by (with_reducible repeat (first | apply rA | apply rN | apply rD)); exact HO_3.out))) (Kd.R_lt (by (with_reducible repeat (first | apply rA | apply rN | apply rD)); exact HO156.out))) (g := gb151) (o := .cells #[.int .i64 ((rd_impl_Peg l0 x10_1).f0), .int .i64 ((rd_impl_Peg l0 x10_1).f1)] 41 (0, 0)) (gQ BK151)) (pZ bE)); replace HO_3 := aM (Kd.R_elder' (by (with_reducible repeat (first | apply rA | apply rN | apply rD)); exact HO_3.out) (Kd.R_base ho29) hb); replace HO156 := aM (Kd.R_elder' (by (with_reducible repeat (first | apply rA | apply rN | apply rD)); exact HO156.out) (Kd.R_base ho29) hb); replace BK151 := bB BK151 hb; replace HR160 := aM (Kd.C_below (by repeat (first | (with_reducible exact HR160.out) | (with_reducible refine cA ?_ _) | (with_reducible refine cN ?_ _) | (with_reducible refine cD ?_) | exact HR160.out)) hb); replace HB := tB HB hb
           clear hb ho29
           refine hK.out _ _ ⟨vZ0 BK151, vZ1 BK151⟩ (fun hHeld => ?_)
           clear hK K
           refine nU ?_
           refine oU 4 32 (bA 9 127) HT_ (fun K hK => ?_)
           refine Kd.R_append_rows_step kd_impl_Peg (w0 := w) w.heap.size (by rfl) (.tmp 28) (.tmp 31) 26 41 (.agg #[(.int .i64 0), (.int .i64 0)]) 16 rfl Try.underlying26 info41 rfl (by decide) (by omega) v155 y154 y157 _ _ _ (fun k_ => some k_ ≠ (.slice (some ad152) x3_1.length co22 : Value).ownBlock ∧ some k_ ≠ (v165 : Value).ownBlock ∧ k_ ≠ gb151) (fun _ => False) rfl rfl ?aO ?aR (fun _ _ h => h) (fun _ h => h.elim) ?aF ?aB ?aS ?aL ?_
           (case aR => repeat (first | exact (by repeat (first | (with_reducible exact HR160.out) | (with_reducible refine cA ?_ _) | (with_reducible refine cN ?_ _) | (with_reducible refine cD ?_) | exact HR160.out)) | (with_reducible refine cA ?_ _) | (with_reducible refine cN ?_ _) | (with_reducible refine cD ?_)))
           (case aB => exact bE)
           (case aF => exact (fun k_ hk => ⟨Kd.fresh' (Kd.R_lt (by (with_reducible repeat (first | apply rA | apply rN | apply rD)); exact HO_3.out)) k_ hk, Kd.fresh' (Kd.R_lt (by (with_reducible repeat (first | apply rA | apply rN | apply rD)); exact HO166.out)) k_ hk, Kd.freshB (g := gb151) (o := .cells #[.int .i64 ((rd_impl_Peg l0 x10_1).f0), .int .i64 ((rd_impl_Peg l0 x10_1).f1)] 41 (0, 0)) (gQ BK151) k_ hk⟩))
           (case aO => exact (by (with_reducible repeat (first | apply rA | apply rN | apply rD)); exact Kd.R_mono HO156.out (fun _ hk => ⟨hk.1.1.2, ⟨hk.2, hk.1.2⟩⟩)))
           (case aS => exact (pZ bE))
           (case aL => have := LMc16.out; omega)
           intro v162 w30 ho hb hg hat
           rw [← Ny161.out] at ho; have n0_ := aM (Kd.R_after (ok := (fun k_ => some k_ ≠ (v165 : Value).ownBlock ∧ k_ ≠ gb151)) (by (with_reducible repeat (first | apply rA | apply rN | apply rD)); exact Kd.R_mono HO_3.out (fun _ hk => ⟨⟨hk.2, hk.1.1⟩, hk.1.2⟩)) hg hat)
           have n1_ := aM (blk_grown (g := gb151) (o := .cells #[.int .i64 ((rd_impl_Peg l0 x10_1).f0), .int .i64 ((rd_impl_Peg l0 x10_1).f1)] 41 (0, 0)) (gQ BK151) hg (Kd.R_away HO156.out (fun _ hk => hk.1.2))); have n2_ := aM (Kd.R_after (ok := (fun k_ => some k_ ≠ (.slice (some ad152) x3_1.length co22 : Value).ownBlock ∧ k_ ≠ gb151)) (by (with_reducible repeat (first | apply rA | apply rN | apply rD)); exact Kd.R_mono HO166.out (fun _ hk => ⟨⟨hk.1.1.2, hk.2⟩, hk.1.2⟩)) hg hat)
           have n3_ := aM (hb); have n4_ := aM ((show Kd.C kd_impl_Peg w30 (some ad152) y157.length y157 from by rw [Ny157.out]; exact Kd.C_take (m := (x6_2 : Int).toNat) ((rR (Kd.R_after (ok := (fun k_ => some k_ ≠ (v165 : Value).ownBlock ∧ k_ ≠ gb151)) (by (with_reducible repeat (first | apply rA | apply rN | apply rD)); exact Kd.R_mono HO_3.out (fun _ hk => ⟨⟨hk.2, hk.1.1⟩, hk.1.2⟩)) hg hat)).2.2) KL25.out))
           have n5_ := aM (ho); clear HO_3; clear BK151; clear HO166; clear HB; clear HR160; clear HO156; have HO_3 := n0_; have BK151 := n1_; have HO166 := n2_; have HB := n3_; have HR160 := n4_; have HO163 := n5_; clear n0_ n1_ n2_ n3_ n4_ n5_; clear ho hb hg hat
           refine hK.out _ _ ⟨vZ0 BK151, vZ1 BK151⟩ (fun hHeld => ?_)
           clear hK K
           refine nU ?_
           exact norm_ (by simp only [putAll, Act.put, sI, sZ, sS]) (hCont (v155, v162, v165) _ ⟨hHeld, (by (with_reducible repeat (first | apply rA | apply rN | apply rD)); exact Kd.R_mono HO163.out (fun _ hk => ⟨hk.2.1, ⟨hk.1, hk.2.2⟩⟩)), (by (with_reducible repeat (first | apply rA | apply rN | apply rD)); exact Kd.R_mono HO166.out (fun _ hk => ⟨hk.2, ⟨hk.1.1, hk.1.2⟩⟩)), (by (with_reducible repeat (first | apply rA | apply rN | apply rD)); exact Kd.R_mono HO_3.out (fun _ hk => ⟨hk.2, ⟨hk.1.1, hk.1.2⟩⟩)), (gQ BK151), bE⟩)
         ·skip
          refine Kd.R_lit_step kd_impl_Peg _ 41 ?hg (N := 34) ?hd (xs := ([(⟨((rd_impl_Peg l0 x10_1).f0), ((rd_impl_Peg l0 x10_1).f1)⟩ : S_impl_Peg)] : List (S_impl_Peg))) (inner := [.int .i64 ((rd_impl_Peg l0 x10_1).f0), .int .i64 ((rd_impl_Peg l0 x10_1).f1)]) (ok := fun _ => True) (okp := fun _ => True) ?hr ?hp (fun _ hk => hk) trivial (Below.refl _ _) (Nat.le_refl _) (by simp) ?_; (case hd => rfl); (case hg => rfl); (case hr => first | (go_simp; done) | (go_simp; rfl)); (case hp => exact (Reps.c2 (show Kd.M kd_impl_Peg _ _ _ (⟨((rd_impl_Peg l0 x10_1).f0), ((rd_impl_Peg l0 x10_1).f1)⟩ : S_impl_Peg) [.int .i64 ((rd_impl_Peg l0 x10_1).f0), .int .i64 ((rd_impl_Peg l0 x10_1).f1)] from (kd_impl_Peg_mkM _ _ _ (⟨((rd_impl_Peg l0 x10_1).f0), ((rd_impl_Peg l0 x10_1).f1)⟩ : S_impl_Peg) )) (Reps.none _ _)))
          intro v165 w26 ho27 hb hg_ hnew_
          clear hg_ hnew_
          (first | rw [← Ny164.out] at ho27 | (simp only [Int.reduceToNat] at ho27; rw [← Ny164.out] at ho27))
          have HO166 := aM (Kd.R_lower (Kd.R_newB (Kd.R_new' ho27 (Kd.R_lt (by (with_reducible repeat (first | apply rA | apply rN | apply rD)); exact HO_3.out))) (g := gb151) (o := .cells #[.int .i64 ((rd_impl_Peg l0 x10_1).f0), .int .i64 ((rd_impl_Peg l0 x10_1).f1)] 41 (0, 0)) (gQ BK151)) (pZ bE)); replace HO_3 := aM (Kd.R_elder' (by (with_reducible repeat (first | apply rA | apply rN | apply rD)); exact HO_3.out) (Kd.R_base ho27) hb); replace BK151 := bB BK151 hb; replace HR160 := aM (Kd.C_below (by repeat (first | (with_reducible exact HR160.out) | (with_reducible refine cA ?_ _) | (with_reducible refine cN ?_ _) | (with_reducible refine cD ?_) | exact HR160.out)) hb); replace HB := tB HB hb
          clear hb ho27
          refine hK.out _ _ ⟨vZ0 BK151, vZ1 BK151⟩ (fun hHeld => ?_)
          clear hK K
          refine nU ?_
          refine oU 0 28 (bA 9 111) HT_ (fun K hK => ?_)
          refine Kd.R_lit_step kd_impl_Peg _ 41 ?hg (N := 28) ?hd (xs := ([] : List (S_impl_Peg))) (inner := []) (ok := fun _ => True) (okp := fun _ => True) ?hr ?hp (fun _ hk => hk) trivial (Below.refl _ _) (Nat.le_refl _) (by simp) ?_; (case hd => rfl); (case hg => rfl); (case hr => first | (go_simp; done) | (go_simp; rfl)); (case hp => exact (Reps.none _ _))
          intro v155 w28 ho29 hb hg_ hnew_
          clear hg_ hnew_
          (first | rw [← Ny154.out] at ho29 | (simp only [Int.reduceToNat] at ho29; rw [← Ny154.out] at ho29))
          have HO156 := aM (Kd.R_lower (Kd.R_newB (Kd.R_new' (Kd.R_new' ho29 (Kd.R_lt (by (with_reducible repeat (first | apply rA | apply rN | apply rD)); exact HO_3.out))) (Kd.R_lt (by (with_reducible repeat (first | apply rA | apply rN | apply rD)); exact HO166.out))) (g := gb151) (o := .cells #[.int .i64 ((rd_impl_Peg l0 x10_1).f0), .int .i64 ((rd_impl_Peg l0 x10_1).f1)] 41 (0, 0)) (gQ BK151)) (pZ bE)); replace HO_3 := aM (Kd.R_elder' (by (with_reducible repeat (first | apply rA | apply rN | apply rD)); exact HO_3.out) (Kd.R_base ho29) hb); replace HO166 := aM (Kd.R_elder' (by (with_reducible repeat (first | apply rA | apply rN | apply rD)); exact HO166.out) (Kd.R_base ho29) hb); replace BK151 := bB BK151 hb; replace HR160 := aM (Kd.C_below (by repeat (first | (with_reducible exact HR160.out) | (with_reducible refine cA ?_ _) | (with_reducible refine cN ?_ _) | (with_reducible refine cD ?_) | exact HR160.out)) hb); replace HB := tB HB hb
          clear hb ho29
          refine hK.out _ _ ⟨vZ0 BK151, vZ1 BK151⟩ (fun hHeld => ?_)
          clear hK K
          refine nU ?_
          refine oU 4 32 (bA 9 127) HT_ (fun K hK => ?_)
          refine Kd.R_append_rows_step kd_impl_Peg (w0 := w) w.heap.size (by rfl) (.tmp 28) (.tmp 31) 26 41 (.agg #[(.int .i64 0), (.int .i64 0)]) 16 rfl Try.underlying26 info41 rfl (by decide) (by omega) v155 y154 y157 _ _ _ (fun k_ => some k_ ≠ (.slice (some ad152) x3_1.length co22 : Value).ownBlock ∧ some k_ ≠ (v165 : Value).ownBlock ∧ k_ ≠ gb151) (fun _ => False) rfl rfl ?aO ?aR (fun _ _ h => h) (fun _ h => h.elim) ?aF ?aB ?aS ?aL ?_
          (case aR => repeat (first | exact (by repeat (first | (with_reducible exact HR160.out) | (with_reducible refine cA ?_ _) | (with_reducible refine cN ?_ _) | (with_reducible refine cD ?_) | exact HR160.out)) | (with_reducible refine cA ?_ _) | (with_reducible refine cN ?_ _) | (with_reducible refine cD ?_)))
          (case aB => exact bE)
          (case aF => exact (fun k_ hk => ⟨Kd.fresh' (Kd.R_lt (by (with_reducible repeat (first | apply rA | apply rN | apply rD)); exact HO_3.out)) k_ hk, Kd.fresh' (Kd.R_lt (by (with_reducible repeat (first | apply rA | apply rN | apply rD)); exact HO166.out)) k_ hk, Kd.freshB (g := gb151) (o := .cells #[.int .i64 ((rd_impl_Peg l0 x10_1).f0), .int .i64 ((rd_impl_Peg l0 x10_1).f1)] 41 (0, 0)) (gQ BK151) k_ hk⟩))
          (case aO => exact (by (with_reducible repeat (first | apply rA | apply rN | apply rD)); exact Kd.R_mono HO156.out (fun _ hk => ⟨hk.1.1.2, ⟨hk.1.2, hk.2⟩⟩)))
          (case aS => exact (pZ bE))
          (case aL => have := LMc16.out; omega)
          intro v162 w30 ho hb hg hat
          rw [← Ny161.out] at ho; have n0_ := aM (Kd.R_after (ok := (fun k_ => some k_ ≠ (v165 : Value).ownBlock ∧ k_ ≠ gb151)) (by (with_reducible repeat (first | apply rA | apply rN | apply rD)); exact Kd.R_mono HO_3.out (fun _ hk => ⟨⟨hk.1.2, hk.1.1⟩, hk.2⟩)) hg hat)
          have n1_ := aM (blk_grown (g := gb151) (o := .cells #[.int .i64 ((rd_impl_Peg l0 x10_1).f0), .int .i64 ((rd_impl_Peg l0 x10_1).f1)] 41 (0, 0)) (gQ BK151) hg (Kd.R_away HO156.out (fun _ hk => hk.2))); have n2_ := aM (Kd.R_after (ok := (fun k_ => some k_ ≠ (.slice (some ad152) x3_1.length co22 : Value).ownBlock ∧ k_ ≠ gb151)) (by (with_reducible repeat (first | apply rA | apply rN | apply rD)); exact Kd.R_mono HO166.out (fun _ hk => ⟨⟨hk.1.1.2, hk.1.2⟩, hk.2⟩)) hg hat)
          have n3_ := aM (hb); have n4_ := aM ((show Kd.C kd_impl_Peg w30 (some ad152) y157.length y157 from by rw [Ny157.out]; exact Kd.C_take (m := (x6_2 : Int).toNat) ((rR (Kd.R_after (ok := (fun k_ => some k_ ≠ (v165 : Value).ownBlock ∧ k_ ≠ gb151)) (by (with_reducible repeat (first | apply rA | apply rN | apply rD)); exact Kd.R_mono HO_3.out (fun _ hk => ⟨⟨hk.1.2, hk.1.1⟩, hk.2⟩)) hg hat)).2.2) KL25.out))
          have n5_ := aM (ho); clear HO_3; clear BK151; clear HO166; clear HB; clear HR160; clear HO156; have HO_3 := n0_; have BK151 := n1_; have HO166 := n2_; have HB := n3_; have HR160 := n4_; have HO163 := n5_; clear n0_ n1_ n2_ n3_ n4_ n5_; clear ho hb hg hat
          refine hK.out _ _ ⟨vZ0 BK151, vZ1 BK151⟩ (fun hHeld => ?_)
          clear hK K
          refine nU ?_
          exact norm_ (by simp only [putAll, Act.put, sI, sZ, sS]) (hCont (v155, v162, v165) _ ⟨hHeld, (by (with_reducible repeat (first | apply rA | apply rN | apply rD)); exact Kd.R_mono HO163.out (fun _ hk => ⟨hk.2.1, ⟨hk.1, hk.2.2⟩⟩)), (by (with_reducible repeat (first | apply rA | apply rN | apply rD)); exact Kd.R_mono HO166.out (fun _ hk => ⟨hk.2, ⟨hk.1.1, hk.1.2⟩⟩)), (by (with_reducible repeat (first | apply rA | apply rN | apply rD)); exact Kd.R_mono HO_3.out (fun _ hk => ⟨hk.2, ⟨hk.1.1, hk.1.2⟩⟩)), (gQ BK151), bE⟩)
        rintro ⟨v155, v162, v165⟩ w31 ⟨hS_, h0_, h1_, h2_, h3_, h4_⟩; have n0_ : Aside0 (Kd.R kd_impl_Peg 41 w31 w.heap.size (fun k_ => some k_ ≠ (v165 : Value).ownBlock ∧ some k_ ≠ (.slice (some ad152) x3_1.length co22 : Value).ownBlock ∧ k_ ≠ gb151) v162 y161) := ⟨h0_⟩; have n1_ : Aside0 (Kd.R kd_impl_Peg 41 w31 w.heap.size (fun k_ => some k_ ≠ (v162 : Value).ownBlock ∧ some k_ ≠ (.slice (some ad152) x3_1.length co22 : Value).ownBlock ∧ k_ ≠ gb151) v165 y164) := ⟨h1_⟩; have n2_ : Aside0 (Kd.R kd_impl_Peg 41 w31 w.heap.size (fun k_ => some k_ ≠ (v162 : Value).ownBlock ∧ some k_ ≠ (v165 : Value).ownBlock ∧ k_ ≠ gb151) (.slice (some ad152) x3_1.length co22) x3_1) := ⟨h2_⟩; have n3_ : Aside0 (w31.heap[gb151]? = some (.cells #[.int .i64 ((rd_impl_Peg l0 x10_1).f0), .int .i64 ((rd_impl_Peg l0 x10_1).f1)] 41 (0, 0))) := ⟨h3_⟩; have n4_ : Aside0 (Below w.heap.size w w31) := ⟨h4_⟩; clear HO_3; clear BK151; clear HB; clear h0_ h1_ h2_ h3_ h4_; have HO163 := n0_; have HO166 := n1_; have HO_3 := n2_; have BK151 := n3_; have HB := n4_; clear n0_ n1_ n2_ n3_ n4_; have hHeld : w31.cell? ⟨gb151, 0, none⟩ = some (.int .i64 ((rd_impl_Peg l0 x10_1).f0)) ∧ w31.cell? ⟨gb151, 1, none⟩ = some (.int .i64 ((rd_impl_Peg l0 x10_1).f1)) := hS_; obtain ⟨Ao33, co33, eo33⟩ := Kd.R_slice HO166.out
        (first | subst eo33 | (injection eo33 with f1_ f2_ f3_; have f4_ := f1_.symm; have f5_ := f3_.symm; clear f1_ f2_ f3_; subst f4_; subst f5_))
        refine norm_ (a' := ?_) ?_ ?_
        rotate_left
        ·simp only [putAll, Act.put, sI, sZ, sS]
         rfl
        refine oU 7 35 (bA 9 255) HT_ (fun K hK => ?_)
        refine Kd.R_append_rows_step kd_impl_Peg (w0 := w) w.heap.size (by rfl) (.tmp 32) (.tmp 34) 26 41 (.agg #[(.int .i64 0), (.int .i64 0)]) 16 rfl Try.underlying26 info41 rfl (by decide) (by omega) v162 y161 y164 _ _ _ (fun k_ => some k_ ≠ (.slice (some ad152) x3_1.length co22 : Value).ownBlock ∧ some k_ ≠ (.slice Ao33 y164.length co33 : Value).ownBlock ∧ k_ ≠ gb151) (fun _ => False) rfl rfl ?aO ?aR (fun _ _ h => h) (fun _ h => h.elim) ?aF ?aB ?aS ?aL ?_
        (case aR => repeat (first | exact (rR HO166.out).2.2 | (with_reducible refine cA ?_ _) | (with_reducible refine cN ?_ _) | (with_reducible refine cD ?_)))
        (case aB => exact bE)
        (case aF => exact (fun k_ hk => ⟨Kd.fresh' (Kd.R_lt (by (with_reducible repeat (first | apply rA | apply rN | apply rD)); exact HO_3.out)) k_ hk, Kd.fresh' (Kd.R_lt (by (with_reducible repeat (first | apply rA | apply rN | apply rD)); exact HO166.out)) k_ hk, Kd.freshB (g := gb151) (o := .cells #[.int .i64 ((rd_impl_Peg l0 x10_1).f0), .int .i64 ((rd_impl_Peg l0 x10_1).f1)] 41 (0, 0)) (gQ BK151) k_ hk⟩))
        (case aO => exact (by (with_reducible repeat (first | apply rA | apply rN | apply rD)); exact Kd.R_mono HO163.out (fun _ hk => ⟨hk.2.1, ⟨hk.1, hk.2.2⟩⟩)))
        (case aS => exact (pZ bE))
        (case aL => have := LMc17.out; omega)
        intro v168 w32 ho hb hg hat
        rw [← Ny167.out] at ho; have n0_ := aM (Kd.R_after (ok := (fun k_ => some k_ ≠ (.slice Ao33 y164.length co33 : Value).ownBlock ∧ k_ ≠ gb151)) (by (with_reducible repeat (first | apply rA | apply rN | apply rD)); exact Kd.R_mono HO_3.out (fun _ hk => ⟨⟨hk.2.1, hk.2.2⟩, hk.1⟩)) hg hat)
        have n1_ := aM (blk_grown (g := gb151) (o := .cells #[.int .i64 ((rd_impl_Peg l0 x10_1).f0), .int .i64 ((rd_impl_Peg l0 x10_1).f1)] 41 (0, 0)) (gQ BK151) hg (Kd.R_away HO163.out (fun _ hk => hk.2.2))); have n2_ := aM (Kd.R_after (ok := (fun k_ => some k_ ≠ (.slice (some ad152) x3_1.length co22 : Value).ownBlock ∧ k_ ≠ gb151)) (by (with_reducible repeat (first | apply rA | apply rN | apply rD)); exact Kd.R_mono HO166.out (fun _ hk => ⟨⟨hk.2.1, hk.2.2⟩, hk.1⟩)) hg hat)
        have n3_ := aM (hb); have n4_ := aM (ho); clear HO_3; clear BK151; clear HO166; clear HB; clear HO163; have HO_3 := n0_; have BK151 := n1_; have HO166 := n2_; have HB := n3_; have HO169 := n4_; clear n0_ n1_ n2_ n3_ n4_; clear ho hb hg hat
        refine hK.out _ _ ⟨vZ0 BK151, vZ1 BK151⟩ (fun hHeld => ?_)
        clear hK K
        refine nU ?_
        refine pU 8 7 (bA 9 511) HT_ ?_
        refine done_ (done_of HT_.out kR) ?_
        have q34 : (x6_2 : Int) ≤ ((x3_1.length : Int) : Int) := dT aQ; obtain ⟨i034, hi034, _, hsz34, _⟩ := info_parts info41; have hroom34 : x3_1.length ≤ co22 := (rR HO_3.out).2.1; have hC34 : Kd.C kd_impl_Peg _ (some ad152) x3_1.length x3_1 := (rR HO_3.out).2.2; have q034 : (0 : Int) ≤ (x6_2 : Int) := dT aQ; have hcut34 := cut_from (P := Try.prog) 26 41 .i64 Try.underlying26 hi034 2 hsz34 (some ad152) x3_1.length co22 x6_2 q034 q34; have hr34 := Kd.C_drop (m := (x6_2 : Int).toNat) (c := co22) hC34 (by omega) hroom34
        obtain ⟨A34, hA34⟩ : ∃ A1, A1 = (if co22 = (x6_2 : Int).toNat then (some ad152) else ((some ad152) : Option Addr).map (·.add ((x6_2 : Int).toNat * 2))) := ⟨_, rfl⟩; obtain ⟨c34, hc34⟩ : ∃ c1, c1 = co22 - (x6_2 : Int).toNat := ⟨_, rfl⟩; have hy34 : y170.length = x3_1.length - (x6_2 : Int).toNat := (by rw [Ny170.out, lD] <;> omega)
        rw [show (x3_1).drop (x6_2 : Int).toNat = y170 from Ny170.out.symm] at hr34; replace hr34 : Kd.C kd_impl_Peg _ A34 y170.length y170 := (by rw [hA34]; exact hr34)
        rw [← hy34, ← hA34, ← hc34] at hcut34; have HR173 := aM hr34; have HC173 := aM (show y170.length ≤ c34 from by rw [hy34, hc34]; exact Nat.sub_le_sub_right hroom34 _)
        clear hr34 hC34 hroom34 hi034 hsz34 hc34; have KY34 := aM hy34; have KA34 := aM hA34; clear hy34 hA34; have KL34 := aM (show (x6_2 : Int).toNat ≤ x3_1.length from by omega)
        replace q34 := eq_true q34
        try go_wp2_with (first | ((with_reducible refine gate_builtin (b := .append) (xs := #[.tmp 36, .tmp 39]) rfl ?_); at_builtin; refine Kd.R_append_rows kd_impl_Peg (w0 := w) w.heap.size rfl (.tmp 36) (.tmp 39) 26 41 (.agg #[(.int .i64 0), (.int .i64 0)]) 16 rfl Try.underlying26 info41 rfl (by decide) (by omega) v168 y167 y170 _ _ _ (fun k_ => some k_ ≠ (.slice (some ad152) x3_1.length co22 : Value).ownBlock ∧ some k_ ≠ (.slice Ao33 y164.length co33 : Value).ownBlock ∧ k_ ≠ gb151) (fun _ => False) rfl rfl ?aO ?aR (fun _ _ h => h) (fun _ h => h.elim) ?aF ?aB ?aS ?aL ?_; (case aR => repeat (first | exact (by repeat (first | (with_reducible exact HR173.out) | (with_reducible refine cA ?_ _) | (with_reducible refine cN ?_ _) | (with_reducible refine cD ?_) | exact HR173.out)) | (with_reducible refine cA ?_ _) | (with_reducible refine cN ?_ _) | (with_reducible refine cD ?_))); (case aB => exact bE); (case aF => exact (fun k_ hk => ⟨Kd.fresh' (Kd.R_lt (by (with_reducible repeat (first | apply rA | apply rN | apply rD)); exact HO_3.out)) k_ hk, Kd.fresh' (Kd.R_lt (by (with_reducible repeat (first | apply rA | apply rN | apply rD)); exact HO166.out)) k_ hk, Kd.freshB (g := gb151) (o := .cells #[.int .i64 ((rd_impl_Peg l0 x10_1).f0), .int .i64 ((rd_impl_Peg l0 x10_1).f1)] 41 (0, 0)) (gQ BK151) k_ hk⟩)); (case aO => exact (by (with_reducible repeat (first | apply rA | apply rN | apply rD)); exact HO169.out)); (case aS => exact (pZ bE)); (case aL => have := LMc20.out; omega); intro v175 w35 ho hb hg hat; rw [← Ny174.out] at ho; have n0_ := aM (Kd.R_after (ok := (fun k_ => some k_ ≠ (.slice Ao33 y164.length co33 : Value).ownBlock ∧ k_ ≠ gb151)) (by (with_reducible repeat (first | apply rA | apply rN | apply rD)); exact HO_3.out) hg hat); have n1_ := aM (blk_grown (g := gb151) (o := .cells #[.int .i64 ((rd_impl_Peg l0 x10_1).f0), .int .i64 ((rd_impl_Peg l0 x10_1).f1)] 41 (0, 0)) (gQ BK151) hg (Kd.R_away HO169.out (fun _ hk => hk.2.2))); have n2_ := aM (Kd.R_after (ok := (fun k_ => some k_ ≠ (.slice (some ad152) x3_1.length co22 : Value).ownBlock ∧ k_ ≠ gb151)) (by (with_reducible repeat (first | apply rA | apply rN | apply rD)); exact HO166.out) hg hat); have n3_ := aM (hb); have n4_ := aM ((show Kd.C kd_impl_Peg w35 A34 y170.length y170 from by rw [Ny170.out, KA34.out]; exact Kd.C_drop (m := (x6_2 : Int).toNat) (c := co22) ((rR (Kd.R_after (ok := (fun k_ => some k_ ≠ (.slice Ao33 y164.length co33 : Value).ownBlock ∧ k_ ≠ gb151)) (by (with_reducible repeat (first | apply rA | apply rN | apply rD)); exact HO_3.out) hg hat)).2.2) KL34.out ((rR (Kd.R_after (ok := (fun k_ => some k_ ≠ (.slice Ao33 y164.length co33 : Value).ownBlock ∧ k_ ≠ gb151)) (by (with_reducible repeat (first | apply rA | apply rN | apply rD)); exact HO_3.out) hg hat)).2.1))); have n5_ := aM (ho); clear HO_3; clear BK151; clear HO166; clear HB; clear HR173; clear HO169; have HO_3 := n0_; have BK151 := n1_; have HO166 := n2_; have HB := n3_; have HR173 := n4_; have HO176 := n5_; clear n0_ n1_ n2_ n3_ n4_ n5_; clear ho hb hg hat))
        go_roundg k2
        case measure => have := HK1.out; have := HK2.out; omega
        case rel => exact ⟨(y174), (wrap64 (x10_1 + 1)), eQ, H', ⟨by have := HK1.out; have := HK2.out; omega⟩, ⟨by (with_reducible repeat (first | apply rA | apply rN | apply rD)); exact Kd.R_mono HO176.out (fun _ hk => trivial)⟩, ⟨bE⟩⟩
      ·rw [if_neg c7] at H; have c7b0 := decide_eq_false c7; clear c7; replace H := lS H; obtain ⟨y177, Ny177, H⟩ := H; replace H := iN H; obtain ⟨c36, H⟩ := H; have c36b0 := eq_true c36; have c36b1 := dE c36; clear c36; replace H := iN H; obtain ⟨c37, H⟩ := H; have c37b0 := eq_true c37; have c37b1 := dE c37; clear c37; replace H := lS H; obtain ⟨y180, Ny180, H⟩ := H; replace H := iN H; obtain ⟨c38, H⟩ := H; have LMc38 := aM c38; clear c38; replace H := lS H; obtain ⟨y184, Ny184, H⟩ := H; replace H := lS H; obtain ⟨y187, Ny187, H⟩ := H; replace H := iN H; obtain ⟨c39, H⟩ := H; have LMc39 := aM c39; clear c39; replace H := lS H; obtain ⟨y190, Ny190, H⟩ := H; have c40b0 := eq_true (dT aQ : 0 ≤ x6_2); have c41b0 := eq_true (dT aQ : x6_2 ≤ (x3_1.length : Int)); replace H := lS H; obtain ⟨y193, Ny193, H⟩ := H; replace H := iN H; obtain ⟨c42, H⟩ := H; have LMc42 := aM c42; clear c42; obtain ⟨y197, hy197⟩ : ∃ y_ : List (S_impl_Peg), y_ = (y190 ++ y193) := ⟨_, rfl⟩; rw [← hy197] at H; have Ny197 := aM hy197; clear hy197; have H' := aM H; clear H
       try go_wp2
       replace HO_3 := aM (rD HO_3.out); replace BK151 := aM (kD BK151.out); replace HB := aM (pD HB.out); obtain ⟨Ao44, co44, eo44⟩ := Kd.R_slice HO_3.out
       (first | subst eo44 | (injection eo44 with f1_ f2_ f3_; have f4_ := f1_.symm; have f5_ := f3_.symm; clear f1_ f2_ f3_; subst f4_; subst f5_))
       refine start_ (n := 12) (S := fun w' => True) (ds := []) (bA 12 0) kR rfl kR trivial (fun hHeld => ?_); refine with_tabW spec_bdSorted.tab6 spec_bdSorted.bits6 (fun HT_ HW_ => ?_)
       generalize wr.drew = w43 at HO_3 BK151 HB hHeld ⊢
       refine pU 0 14 (bA 12 1) HT_ ?_; refine pU 1 15 (bA 12 3) HT_ ?_; refine pU 2 16 (bA 12 7) HT_ ?_; refine pU 3 17 (bA 12 15) HT_ ?_; refine pU 4 18 (bA 12 31) HT_ ?_; refine pU 5 19 (bA 12 63) HT_ ?_ (hy := Or.inr ⟨by rfl, rfl⟩)
       refine pU 6 20 (bA 12 127) HT_ ?_ (hy := Or.inr ⟨by rfl, rfl⟩)
       refine pU 7 21 (bA 12 255) HT_ ?_ (hy := Or.inr ⟨by rfl, rfl⟩)
       refine pU 8 22 (bA 12 511) HT_ ?_ (hy := Or.inr ⟨by rfl, rfl⟩)
       refine pU 9 23 (bA 12 1023) HT_ ?_ (hy := Or.inr ⟨by rfl, rfl⟩)
       refine pU 10 24 (bA 12 2047) HT_ ?_ (hy := Or.inr ⟨by rfl, rfl⟩)
       refine pU 11 25 (bA 12 4095) HT_ ?_
       refine done_ (done_of HT_.out kR) ?_
       try go_wp2
       replace HO_3 := aM (rD HO_3.out); replace BK151 := aM (kD BK151.out); replace HB := aM (pD HB.out); have q46 : (x6_2 : Int) ≤ ((x3_1.length : Int) : Int) := dT aQ; obtain ⟨i046, hi046, _, hsz46, _⟩ := info_parts info41; have hroom46 : x3_1.length ≤ co44 := (rR HO_3.out).2.1; have hC46 : Kd.C kd_impl_Peg _ Ao44 x3_1.length x3_1 := (rR HO_3.out).2.2; have hcut46 := cut_to (P := Try.prog) 26 41 .i64 Try.underlying26 hi046 Ao44 x3_1.length co44 x6_2 (dT aQ) q46 hroom46; have hr46 := Kd.C_take (m := (x6_2 : Int).toNat) hC46 (by omega)
       have hy46 : y180.length = (x6_2 : Int).toNat := (by rw [Ny180.out, lT]; omega)
       rw [← Ny180.out] at hr46; rw [← hy46] at hcut46; have HR183 := aM hr46; have HC183 := aM (show y180.length ≤ co44 from by omega)
       clear hr46 hC46 hroom46 hi046 hsz46; have KY46 := aM hy46; clear hy46; have KL46 := aM (show (x6_2 : Int).toNat ≤ x3_1.length from by omega)
       replace q46 := eq_true q46
       refine start_ (n := 9) (S := fun w' => w'.cell? ⟨gb151, 0, none⟩ = some (.int .i64 ((rd_impl_Peg l0 x10_1).f0)) ∧ w'.cell? ⟨gb151, 1, none⟩ = some (.int .i64 ((rd_impl_Peg l0 x10_1).f1))) (ds := []) (bA 9 0) kR rfl kR ⟨vZ0 BK151, vZ1 BK151⟩ (fun hHeld => ?_); refine with_tabW spec_bdSorted.tab8 spec_bdSorted.bits8 (fun HT_ HW_ => ?_)
       generalize w43.drew = w45 at HO_3 BK151 HB HR183 hHeld ⊢
       refine pU 1 29 (bA 9 2) HT_ ?_; refine pU 2 30 (bA 9 6) HT_ ?_; refine pU 3 31 (bA 9 14) HT_ ?_
       refine tU 5 33 (bA 9 46) HT_ HW_ hHeld ?_ (hy := Or.inl ⟨by rfl, by rintro w' ⟨s0, s1⟩; go_simp; with_reducible rfl⟩)
       refine join_ (σ := Value × Value × Value) 2 (bA 9 127) (fun s_ => [(28, s_.1), (32, s_.2.1), (34, s_.2.2)]) (fun s_ w' => (w'.cell? ⟨gb151, 0, none⟩ = some (.int .i64 ((rd_impl_Peg l0 x10_1).f0)) ∧ w'.cell? ⟨gb151, 1, none⟩ = some (.int .i64 ((rd_impl_Peg l0 x10_1).f1))) ∧ (Kd.R kd_impl_Peg 41 w' w.heap.size (fun k_ => some k_ ≠ (s_.2.2 : Value).ownBlock ∧ some k_ ≠ (.slice Ao44 x3_1.length co44 : Value).ownBlock ∧ k_ ≠ gb151) s_.2.1 y184) ∧ (Kd.R kd_impl_Peg 41 w' w.heap.size (fun k_ => some k_ ≠ (s_.2.1 : Value).ownBlock ∧ some k_ ≠ (.slice Ao44 x3_1.length co44 : Value).ownBlock ∧ k_ ≠ gb151) s_.2.2 y187) ∧ (Kd.R kd_impl_Peg 41 w' w.heap.size (fun k_ => some k_ ≠ (s_.2.1 : Value).ownBlock ∧ some k_ ≠ (s_.2.2 : Value).ownBlock ∧ k_ ≠ gb151) (.slice Ao44 x3_1.length co44) x3_1) ∧ (w'.heap[gb151]? = some (.cells #[.int .i64 ((rd_impl_Peg l0 x10_1).f0), .int .i64 ((rd_impl_Peg l0 x10_1).f1)] 41 (0, 0))) ∧ (Below w.heap.size w w')) ?_ ?_
       rotate_left
       ·intro hCont
        refine two_ (i := 0) (j := 6) (Ni := some 28) (Nj := some 34) (bA 9 47) (bA 9 110) rfl rfl rfl rfl (two_of HT_.out kR) (by decide) (by decide) (fun K hK => ?_) (fun K hK => ?_)
        ·skip
         refine Kd.R_lit_step kd_impl_Peg _ 41 ?hg (N := 28) ?hd (xs := ([] : List (S_impl_Peg))) (inner := []) (ok := fun _ => True) (okp := fun _ => True) ?hr ?hp (fun _ hk => hk) trivial (Below.refl _ _) (Nat.le_refl _) (by simp) ?_; (case hd => rfl); (case hg => rfl); (case hr => first | (go_simp; done) | (go_simp; rfl)); (case hp => exact (Reps.none _ _))
         intro v178 w47 ho48 hb hg_ hnew_
         clear hg_ hnew_
         (first | rw [← Ny177.out] at ho48 | (simp only [Int.reduceToNat] at ho48; rw [← Ny177.out] at ho48))
         have HO179 := aM (Kd.R_lower (Kd.R_newB (Kd.R_new' ho48 (Kd.R_lt (by (with_reducible repeat (first | apply rA | apply rN | apply rD)); exact HO_3.out))) (g := gb151) (o := .cells #[.int .i64 ((rd_impl_Peg l0 x10_1).f0), .int .i64 ((rd_impl_Peg l0 x10_1).f1)] 41 (0, 0)) (gQ BK151)) (pZ bE)); replace HO_3 := aM (Kd.R_elder' (by (with_reducible repeat (first | apply rA | apply rN | apply rD)); exact HO_3.out) (Kd.R_base ho48) hb); replace BK151 := bB BK151 hb; replace HR183 := aM (Kd.C_below (by repeat (first | (with_reducible exact HR183.out) | (with_reducible refine cA ?_ _) | (with_reducible refine cN ?_ _) | (with_reducible refine cD ?_) | exact HR183.out)) hb); replace HB := tB HB hb
         clear hb ho48
         refine hK.out _ _ ⟨vZ0 BK151, vZ1 BK151⟩ (fun hHeld => ?_)
         clear hK K
         refine nU ?_
         refine two_ (i := 4) (j := 6) (Ni := some 32) (Nj := some 34) (bA 9 63) (bA 9 111) rfl rfl rfl rfl (two_of HT_.out kR) (by decide) (by decide) (fun K hK => ?_) (fun K hK => ?_)
         ·skip
          refine Kd.R_append_rows_step kd_impl_Peg (w0 := w) w.heap.size (by rfl) (.tmp 28) (.tmp 31) 26 41 (.agg #[(.int .i64 0), (.int .i64 0)]) 16 rfl Try.underlying26 info41 rfl (by decide) (by omega) v178 y177 y180 _ _ _ (fun k_ => some k_ ≠ (.slice Ao44 x3_1.length co44 : Value).ownBlock ∧ k_ ≠ gb151) (fun _ => False) rfl rfl ?aO ?aR (fun _ _ h => h) (fun _ h => h.elim) ?aF ?aB ?aS ?aL ?_
          (case aR => repeat (first | exact (by repeat (first | (with_reducible exact HR183.out) | (with_reducible refine cA ?_ _) | (with_reducible refine cN ?_ _) | (with_reducible refine cD ?_) | exact HR183.out)) | (with_reducible refine cA ?_ _) | (with_reducible refine cN ?_ _) | (with_reducible refine cD ?_)))
          (case aB => exact bE)
          (case aF => exact (fun k_ hk => ⟨Kd.fresh' (Kd.R_lt (by (with_reducible repeat (first | apply rA | apply rN | apply rD)); exact HO_3.out)) k_ hk, Kd.freshB (g := gb151) (o := .cells #[.int .i64 ((rd_impl_Peg l0 x10_1).f0), .int .i64 ((rd_impl_Peg l0 x10_1).f1)] 41 (0, 0)) (gQ BK151) k_ hk⟩))
          (case aO => exact (by (with_reducible repeat (first | apply rA | apply rN | apply rD)); exact Kd.R_mono HO179.out (fun _ hk => ⟨hk.1.2, hk.2⟩)))
          (case aS => exact (pZ bE))
          (case aL => have := LMc38.out; omega)
          intro v185 w49 ho hb hg hat
          rw [← Ny184.out] at ho; have n0_ := aM (Kd.R_after (ok := (fun k_ => k_ ≠ gb151)) (by (with_reducible repeat (first | apply rA | apply rN | apply rD)); exact HO_3.out) hg hat)
          have n1_ := aM (blk_grown (g := gb151) (o := .cells #[.int .i64 ((rd_impl_Peg l0 x10_1).f0), .int .i64 ((rd_impl_Peg l0 x10_1).f1)] 41 (0, 0)) (gQ BK151) hg (Kd.R_away HO179.out (fun _ hk => hk.2))); have n2_ := aM (hb); have n3_ := aM ((show Kd.C kd_impl_Peg w49 Ao44 y180.length y180 from by rw [Ny180.out]; exact Kd.C_take (m := (x6_2 : Int).toNat) ((rR (Kd.R_after (ok := (fun k_ => k_ ≠ gb151)) (by (with_reducible repeat (first | apply rA | apply rN | apply rD)); exact HO_3.out) hg hat)).2.2) KL46.out))
          have n4_ := aM (ho); clear HO_3; clear BK151; clear HB; clear HR183; clear HO179; have HO_3 := n0_; have BK151 := n1_; have HB := n2_; have HR183 := n3_; have HO186 := n4_; clear n0_ n1_ n2_ n3_ n4_; clear ho hb hg hat
          refine hK.out _ _ ⟨vZ0 BK151, vZ1 BK151⟩ (fun hHeld => ?_)
          clear hK K
          refine nU ?_
          refine oU 6 34 (bA 9 127) HT_ (fun K hK => ?_)
          refine Kd.R_lit_step kd_impl_Peg _ 41 ?hg (N := 34) ?hd (xs := ([(⟨((rd_impl_Peg l0 x10_1).f0), ((rd_impl_Peg l0 x10_1).f1)⟩ : S_impl_Peg)] : List (S_impl_Peg))) (inner := [.int .i64 ((rd_impl_Peg l0 x10_1).f0), .int .i64 ((rd_impl_Peg l0 x10_1).f1)]) (ok := fun _ => True) (okp := fun _ => True) ?hr ?hp (fun _ hk => hk) trivial (Below.refl _ _) (Nat.le_refl _) (by simp) ?_; (case hd => rfl); (case hg => rfl); (case hr => first | (go_simp; done) | (go_simp; rfl)); (case hp => exact (Reps.c2 (show Kd.M kd_impl_Peg _ _ _ (⟨((rd_impl_Peg l0 x10_1).f0), ((rd_impl_Peg l0 x10_1).f1)⟩ : S_impl_Peg) [.int .i64 ((rd_impl_Peg l0 x10_1).f0), .int .i64 ((rd_impl_Peg l0 x10_1).f1)] from (kd_impl_Peg_mkM _ _ _ (⟨((rd_impl_Peg l0 x10_1).f0), ((rd_impl_Peg l0 x10_1).f1)⟩ : S_impl_Peg) )) (Reps.none _ _)))
          intro v188 w50 ho51 hb hg_ hnew_
          clear hg_ hnew_
          (first | rw [← Ny187.out] at ho51 | (simp only [Int.reduceToNat] at ho51; rw [← Ny187.out] at ho51))
          have HO189 := aM (Kd.R_lower (Kd.R_newB (Kd.R_new' (Kd.R_new' ho51 (Kd.R_lt (by (with_reducible repeat (first | apply rA | apply rN | apply rD)); exact HO_3.out))) (Kd.R_lt (by (with_reducible repeat (first | apply rA | apply rN | apply rD)); exact HO186.out))) (g := gb151) (o := .cells #[.int .i64 ((rd_impl_Peg l0 x10_1).f0), .int .i64 ((rd_impl_Peg l0 x10_1).f1)] 41 (0, 0)) (gQ BK151)) (pZ bE)); replace HO_3 := aM (Kd.R_elder' (by (with_reducible repeat (first | apply rA | apply rN | apply rD)); exact HO_3.out) (Kd.R_base ho51) hb); replace HO186 := aM (Kd.R_elder' (by (with_reducible repeat (first | apply rA | apply rN | apply rD)); exact HO186.out) (Kd.R_base ho51) hb); replace BK151 := bB BK151 hb; replace HR183 := aM (Kd.C_below (by repeat (first | (with_reducible exact HR183.out) | (with_reducible refine cA ?_ _) | (with_reducible refine cN ?_ _) | (with_reducible refine cD ?_) | exact HR183.out)) hb); replace HB := tB HB hb
          clear hb ho51
          refine hK.out _ _ ⟨vZ0 BK151, vZ1 BK151⟩ (fun hHeld => ?_)
          clear hK K
          refine nU ?_
          exact norm_ (by simp only [putAll, Act.put, sI, sZ, sS]) (hCont (v178, v185, v188) _ ⟨hHeld, (by (with_reducible repeat (first | apply rA | apply rN | apply rD)); exact Kd.R_mono HO186.out (fun _ hk => ⟨hk.2, ⟨hk.1.1, hk.1.2⟩⟩)), (by (with_reducible repeat (first | apply rA | apply rN | apply rD)); exact Kd.R_mono HO189.out (fun _ hk => ⟨hk.1.2, ⟨hk.1.1.2, hk.2⟩⟩)), (by (with_reducible repeat (first | apply rA | apply rN | apply rD)); exact Kd.R_mono HO_3.out (fun _ hk => ⟨hk.1.2, ⟨hk.2, hk.1.1⟩⟩)), (gQ BK151), bE⟩)
         ·skip
          refine Kd.R_lit_step kd_impl_Peg _ 41 ?hg (N := 34) ?hd (xs := ([(⟨((rd_impl_Peg l0 x10_1).f0), ((rd_impl_Peg l0 x10_1).f1)⟩ : S_impl_Peg)] : List (S_impl_Peg))) (inner := [.int .i64 ((rd_impl_Peg l0 x10_1).f0), .int .i64 ((rd_impl_Peg l0 x10_1).f1)]) (ok := fun _ => True) (okp := fun _ => True) ?hr ?hp (fun _ hk => hk) trivial (Below.refl _ _) (Nat.le_refl _) (by simp) ?_; (case hd => rfl); (case hg => rfl); (case hr => first | (go_simp; done) | (go_simp; rfl)); (case hp => exact (Reps.c2 (show Kd.M kd_impl_Peg _ _ _ (⟨((rd_impl_Peg l0 x10_1).f0), ((rd_impl_Peg l0 x10_1).f1)⟩ : S_impl_Peg) [.int .i64 ((rd_impl_Peg l0 x10_1).f0), .int .i64 ((rd_impl_Peg l0 x10_1).f1)] from (kd_impl_Peg_mkM _ _ _ (⟨((rd_impl_Peg l0 x10_1).f0), ((rd_impl_Peg l0 x10_1).f1)⟩ : S_impl_Peg) )) (Reps.none _ _)))
          intro v188 w49 ho50 hb hg_ hnew_
          clear hg_ hnew_
          (first | rw [← Ny187.out] at ho50 | (simp only [Int.reduceToNat] at ho50; rw [← Ny187.out] at ho50))
          have HO189 := aM (Kd.R_lower (Kd.R_newB (Kd.R_new' (Kd.R_new' ho50 (Kd.R_lt (by (with_reducible repeat (first | apply rA | apply rN | apply rD)); exact HO_3.out))) (Kd.R_lt (by (with_reducible repeat (first | apply rA | apply rN | apply rD)); exact HO179.out))) (g := gb151) (o := .cells #[.int .i64 ((rd_impl_Peg l0 x10_1).f0), .int .i64 ((rd_impl_Peg l0 x10_1).f1)] 41 (0, 0)) (gQ BK151)) (pZ bE)); replace HO_3 := aM (Kd.R_elder' (by (with_reducible repeat (first | apply rA | apply rN | apply rD)); exact HO_3.out) (Kd.R_base ho50) hb); replace HO179 := aM (Kd.R_elder' (by (with_reducible repeat (first | apply rA | apply rN | apply rD)); exact HO179.out) (Kd.R_base ho50) hb); replace BK151 := bB BK151 hb; replace HR183 := aM (Kd.C_below (by repeat (first | (with_reducible exact HR183.out) | (with_reducible refine cA ?_ _) | (with_reducible refine cN ?_ _) | (with_reducible refine cD ?_) | exact HR183.out)) hb); replace HB := tB HB hb
          clear hb ho50
          refine hK.out _ _ ⟨vZ0 BK151, vZ1 BK151⟩ (fun hHeld => ?_)
          clear hK K
          refine nU ?_
          refine oU 4 32 (bA 9 127) HT_ (fun K hK => ?_)
          refine Kd.R_append_rows_step kd_impl_Peg (w0 := w) w.heap.size (by rfl) (.tmp 28) (.tmp 31) 26 41 (.agg #[(.int .i64 0), (.int .i64 0)]) 16 rfl Try.underlying26 info41 rfl (by decide) (by omega) v178 y177 y180 _ _ _ (fun k_ => some k_ ≠ (.slice Ao44 x3_1.length co44 : Value).ownBlock ∧ some k_ ≠ (v188 : Value).ownBlock ∧ k_ ≠ gb151) (fun _ => False) rfl rfl ?aO ?aR (fun _ _ h => h) (fun _ h => h.elim) ?aF ?aB ?aS ?aL ?_
          (case aR => repeat (first | exact (by repeat (first | (with_reducible exact HR183.out) | (with_reducible refine cA ?_ _) | (with_reducible refine cN ?_ _) | (with_reducible refine cD ?_) | exact HR183.out)) | (with_reducible refine cA ?_ _) | (with_reducible refine cN ?_ _) | (with_reducible refine cD ?_)))
          (case aB => exact bE)
          (case aF => exact (fun k_ hk => ⟨Kd.fresh' (Kd.R_lt (by (with_reducible repeat (first | apply rA | apply rN | apply rD)); exact HO_3.out)) k_ hk, Kd.fresh' (Kd.R_lt (by (with_reducible repeat (first | apply rA | apply rN | apply rD)); exact HO189.out)) k_ hk, Kd.freshB (g := gb151) (o := .cells #[.int .i64 ((rd_impl_Peg l0 x10_1).f0), .int .i64 ((rd_impl_Peg l0 x10_1).f1)] 41 (0, 0)) (gQ BK151) k_ hk⟩))
          (case aO => exact (by (with_reducible repeat (first | apply rA | apply rN | apply rD)); exact Kd.R_mono HO179.out (fun _ hk => ⟨hk.1.1.2, ⟨hk.2, hk.1.2⟩⟩)))
          (case aS => exact (pZ bE))
          (case aL => have := LMc38.out; omega)
          intro v185 w51 ho hb hg hat
          rw [← Ny184.out] at ho; have n0_ := aM (Kd.R_after (ok := (fun k_ => some k_ ≠ (v188 : Value).ownBlock ∧ k_ ≠ gb151)) (by (with_reducible repeat (first | apply rA | apply rN | apply rD)); exact Kd.R_mono HO_3.out (fun _ hk => ⟨⟨hk.2, hk.1.1⟩, hk.1.2⟩)) hg hat)
          have n1_ := aM (blk_grown (g := gb151) (o := .cells #[.int .i64 ((rd_impl_Peg l0 x10_1).f0), .int .i64 ((rd_impl_Peg l0 x10_1).f1)] 41 (0, 0)) (gQ BK151) hg (Kd.R_away HO179.out (fun _ hk => hk.1.2))); have n2_ := aM (Kd.R_after (ok := (fun k_ => some k_ ≠ (.slice Ao44 x3_1.length co44 : Value).ownBlock ∧ k_ ≠ gb151)) (by (with_reducible repeat (first | apply rA | apply rN | apply rD)); exact Kd.R_mono HO189.out (fun _ hk => ⟨⟨hk.1.1.2, hk.2⟩, hk.1.2⟩)) hg hat)
          have n3_ := aM (hb); have n4_ := aM ((show Kd.C kd_impl_Peg w51 Ao44 y180.length y180 from by rw [Ny180.out]; exact Kd.C_take (m := (x6_2 : Int).toNat) ((rR (Kd.R_after (ok := (fun k_ => some k_ ≠ (v188 : Value).ownBlock ∧ k_ ≠ gb151)) (by (with_reducible repeat (first | apply rA | apply rN | apply rD)); exact Kd.R_mono HO_3.out (fun _ hk => ⟨⟨hk.2, hk.1.1⟩, hk.1.2⟩)) hg hat)).2.2) KL46.out))
          have n5_ := aM (ho); clear HO_3; clear BK151; clear HO189; clear HB; clear HR183; clear HO179; have HO_3 := n0_; have BK151 := n1_; have HO189 := n2_; have HB := n3_; have HR183 := n4_; have HO186 := n5_; clear n0_ n1_ n2_ n3_ n4_ n5_; clear ho hb hg hat
          refine hK.out _ _ ⟨vZ0 BK151, vZ1 BK151⟩ (fun hHeld => ?_)
          clear hK K
          refine nU ?_
          exact norm_ (by simp only [putAll, Act.put, sI, sZ, sS]) (hCont (v178, v185, v188) _ ⟨hHeld, (by (with_reducible repeat (first | apply rA | apply rN | apply rD)); exact Kd.R_mono HO186.out (fun _ hk => ⟨hk.2.1, ⟨hk.1, hk.2.2⟩⟩)), (by (with_reducible repeat (first | apply rA | apply rN | apply rD)); exact Kd.R_mono HO189.out (fun _ hk => ⟨hk.2, ⟨hk.1.1, hk.1.2⟩⟩)), (by (with_reducible repeat (first | apply rA | apply rN | apply rD)); exact Kd.R_mono HO_3.out (fun _ hk => ⟨hk.2, ⟨hk.1.1, hk.1.2⟩⟩)), (gQ BK151), bE⟩)
        ·skip
         refine Kd.R_lit_step kd_impl_Peg _ 41 ?hg (N := 34) ?hd (xs := ([(⟨((rd_impl_Peg l0 x10_1).f0), ((rd_impl_Peg l0 x10_1).f1)⟩ : S_impl_Peg)] : List (S_impl_Peg))) (inner := [.int .i64 ((rd_impl_Peg l0 x10_1).f0), .int .i64 ((rd_impl_Peg l0 x10_1).f1)]) (ok := fun _ => True) (okp := fun _ => True) ?hr ?hp (fun _ hk => hk) trivial (Below.refl _ _) (Nat.le_refl _) (by simp) ?_; (case hd => rfl); (case hg => rfl); (case hr => first | (go_simp; done) | (go_simp; rfl)); (case hp => exact (Reps.c2 (show Kd.M kd_impl_Peg _ _ _ (⟨((rd_impl_Peg l0 x10_1).f0), ((rd_impl_Peg l0 x10_1).f1)⟩ : S_impl_Peg) [.int .i64 ((rd_impl_Peg l0 x10_1).f0), .int .i64 ((rd_impl_Peg l0 x10_1).f1)] from (kd_impl_Peg_mkM _ _ _ (⟨((rd_impl_Peg l0 x10_1).f0), ((rd_impl_Peg l0 x10_1).f1)⟩ : S_impl_Peg) )) (Reps.none _ _)))
         intro v188 w47 ho48 hb hg_ hnew_
         clear hg_ hnew_
         (first | rw [← Ny187.out] at ho48 | (simp only [Int.reduceToNat] at ho48; rw [← Ny187.out] at ho48))
         have HO189 := aM (Kd.R_lower (Kd.R_newB (Kd.R_new' ho48 (Kd.R_lt (by (with_reducible repeat (first | apply rA | apply rN | apply rD)); exact HO_3.out))) (g := gb151) (o := .cells #[.int .i64 ((rd_impl_Peg l0 x10_1).f0), .int .i64 ((rd_impl_Peg l0 x10_1).f1)] 41 (0, 0)) (gQ BK151)) (pZ bE)); replace HO_3 := aM (Kd.R_elder' (by (with_reducible repeat (first | apply rA | apply rN | apply rD)); exact HO_3.out) (Kd.R_base ho48) hb); replace BK151 := bB BK151 hb; replace HR183 := aM (Kd.C_below (by repeat (first | (with_reducible exact HR183.out) | (with_reducible refine cA ?_ _) | (with_reducible refine cN ?_ _) | (with_reducible refine cD ?_) | exact HR183.out)) hb); replace HB := tB HB hb
         clear hb ho48
         refine hK.out _ _ ⟨vZ0 BK151, vZ1 BK151⟩ (fun hHeld => ?_)
         clear hK K
         refine nU ?_
         refine oU 0 28 (bA 9 111) HT_ (fun K hK => ?_)
         refine Kd.R_lit_step kd_impl_Peg _ 41 ?hg (N := 28) ?hd (xs := ([] : List (S_impl_Peg))) (inner := []) (ok := fun _ => True) (okp := fun _ => True) ?hr ?hp (fun _ hk => hk) trivial (Below.refl _ _) (Nat.le_refl _) (by simp) ?_; (case hd => rfl); (case hg => rfl); (case hr => first | (go_simp; done) | (go_simp; rfl)); (case hp => exact (Reps.none _ _))
         intro v178 w49 ho50 hb hg_ hnew_
         clear hg_ hnew_
         (first | rw [← Ny177.out] at ho50 | (simp only [Int.reduceToNat] at ho50; rw [← Ny177.out] at ho50))
         have HO179 := aM (Kd.R_lower (Kd.R_newB (Kd.R_new' (Kd.R_new' ho50 (Kd.R_lt (by (with_reducible repeat (first | apply rA | apply rN | apply rD)); exact HO_3.out))) (Kd.R_lt (by (with_reducible repeat (first | apply rA | apply rN | apply rD)); exact HO189.out))) (g := gb151) (o := .cells #[.int .i64 ((rd_impl_Peg l0 x10_1).f0), .int .i64 ((rd_impl_Peg l0 x10_1).f1)] 41 (0, 0)) (gQ BK151)) (pZ bE)); replace HO_3 := aM (Kd.R_elder' (by (with_reducible repeat (first | apply rA | apply rN | apply rD)); exact HO_3.out) (Kd.R_base ho50) hb); replace HO189 := aM (Kd.R_elder' (by (with_reducible repeat (first | apply rA | apply rN | apply rD)); exact HO189.out) (Kd.R_base ho50) hb); replace BK151 := bB BK151 hb; replace HR183 := aM (Kd.C_below (by repeat (first | (with_reducible exact HR183.out) | (with_reducible refine cA ?_ _) | (with_reducible refine cN ?_ _) | (with_reducible refine cD ?_) | exact HR183.out)) hb); replace HB := tB HB hb
         clear hb ho50
         refine hK.out _ _ ⟨vZ0 BK151, vZ1 BK151⟩ (fun hHeld => ?_)
         clear hK K
         refine nU ?_
         refine oU 4 32 (bA 9 127) HT_ (fun K hK => ?_)
         refine Kd.R_append_rows_step kd_impl_Peg (w0 := w) w.heap.size (by rfl) (.tmp 28) (.tmp 31) 26 41 (.agg #[(.int .i64 0), (.int .i64 0)]) 16 rfl Try.underlying26 info41 rfl (by decide) (by omega) v178 y177 y180 _ _ _ (fun k_ => some k_ ≠ (.slice Ao44 x3_1.length co44 : Value).ownBlock ∧ some k_ ≠ (v188 : Value).ownBlock ∧ k_ ≠ gb151) (fun _ => False) rfl rfl ?aO ?aR (fun _ _ h => h) (fun _ h => h.elim) ?aF ?aB ?aS ?aL ?_
         (case aR => repeat (first | exact (by repeat (first | (with_reducible exact HR183.out) | (with_reducible refine cA ?_ _) | (with_reducible refine cN ?_ _) | (with_reducible refine cD ?_) | exact HR183.out)) | (with_reducible refine cA ?_ _) | (with_reducible refine cN ?_ _) | (with_reducible refine cD ?_)))
         (case aB => exact bE)
         (case aF => exact (fun k_ hk => ⟨Kd.fresh' (Kd.R_lt (by (with_reducible repeat (first | apply rA | apply rN | apply rD)); exact HO_3.out)) k_ hk, Kd.fresh' (Kd.R_lt (by (with_reducible repeat (first | apply rA | apply rN | apply rD)); exact HO189.out)) k_ hk, Kd.freshB (g := gb151) (o := .cells #[.int .i64 ((rd_impl_Peg l0 x10_1).f0), .int .i64 ((rd_impl_Peg l0 x10_1).f1)] 41 (0, 0)) (gQ BK151) k_ hk⟩))
         (case aO => exact (by (with_reducible repeat (first | apply rA | apply rN | apply rD)); exact Kd.R_mono HO179.out (fun _ hk => ⟨hk.1.1.2, ⟨hk.1.2, hk.2⟩⟩)))
         (case aS => exact (pZ bE))
         (case aL => have := LMc38.out; omega)
         intro v185 w51 ho hb hg hat
         rw [← Ny184.out] at ho; have n0_ := aM (Kd.R_after (ok := (fun k_ => some k_ ≠ (v188 : Value).ownBlock ∧ k_ ≠ gb151)) (by (with_reducible repeat (first | apply rA | apply rN | apply rD)); exact Kd.R_mono HO_3.out (fun _ hk => ⟨⟨hk.1.2, hk.1.1⟩, hk.2⟩)) hg hat)
         have n1_ := aM (blk_grown (g := gb151) (o := .cells #[.int .i64 ((rd_impl_Peg l0 x10_1).f0), .int .i64 ((rd_impl_Peg l0 x10_1).f1)] 41 (0, 0)) (gQ BK151) hg (Kd.R_away HO179.out (fun _ hk => hk.2))); have n2_ := aM (Kd.R_after (ok := (fun k_ => some k_ ≠ (.slice Ao44 x3_1.length co44 : Value).ownBlock ∧ k_ ≠ gb151)) (by (with_reducible repeat (first | apply rA | apply rN | apply rD)); exact Kd.R_mono HO189.out (fun _ hk => ⟨⟨hk.1.1.2, hk.1.2⟩, hk.2⟩)) hg hat)
         have n3_ := aM (hb); have n4_ := aM ((show Kd.C kd_impl_Peg w51 Ao44 y180.length y180 from by rw [Ny180.out]; exact Kd.C_take (m := (x6_2 : Int).toNat) ((rR (Kd.R_after (ok := (fun k_ => some k_ ≠ (v188 : Value).ownBlock ∧ k_ ≠ gb151)) (by (with_reducible repeat (first | apply rA | apply rN | apply rD)); exact Kd.R_mono HO_3.out (fun _ hk => ⟨⟨hk.1.2, hk.1.1⟩, hk.2⟩)) hg hat)).2.2) KL46.out))
         have n5_ := aM (ho); clear HO_3; clear BK151; clear HO189; clear HB; clear HR183; clear HO179; have HO_3 := n0_; have BK151 := n1_; have HO189 := n2_; have HB := n3_; have HR183 := n4_; have HO186 := n5_; clear n0_ n1_ n2_ n3_ n4_ n5_; clear ho hb hg hat
         refine hK.out _ _ ⟨vZ0 BK151, vZ1 BK151⟩ (fun hHeld => ?_)
         clear hK K
         refine nU ?_
         exact norm_ (by simp only [putAll, Act.put, sI, sZ, sS]) (hCont (v178, v185, v188) _ ⟨hHeld, (by (with_reducible repeat (first | apply rA | apply rN | apply rD)); exact Kd.R_mono HO186.out (fun _ hk => ⟨hk.2.1, ⟨hk.1, hk.2.2⟩⟩)), (by (with_reducible repeat (first | apply rA | apply rN | apply rD)); exact Kd.R_mono HO189.out (fun _ hk => ⟨hk.2, ⟨hk.1.1, hk.1.2⟩⟩)), (by (with_reducible repeat (first | apply rA | apply rN | apply rD)); exact Kd.R_mono HO_3.out (fun _ hk => ⟨hk.2, ⟨hk.1.1, hk.1.2⟩⟩)), (gQ BK151), bE⟩)
       rintro ⟨v178, v185, v188⟩ w52 ⟨hS_, h0_, h1_, h2_, h3_, h4_⟩; have n0_ : Aside0 (Kd.R kd_impl_Peg 41 w52 w.heap.size (fun k_ => some k_ ≠ (v188 : Value).ownBlock ∧ some k_ ≠ (.slice Ao44 x3_1.length co44 : Value).ownBlock ∧ k_ ≠ gb151) v185 y184) := ⟨h0_⟩; have n1_ : Aside0 (Kd.R kd_impl_Peg 41 w52 w.heap.size (fun k_ => some k_ ≠ (v185 : Value).ownBlock ∧ some k_ ≠ (.slice Ao44 x3_1.length co44 : Value).ownBlock ∧ k_ ≠ gb151) v188 y187) := ⟨h1_⟩; have n2_ : Aside0 (Kd.R kd_impl_Peg 41 w52 w.heap.size (fun k_ => some k_ ≠ (v185 : Value).ownBlock ∧ some k_ ≠ (v188 : Value).ownBlock ∧ k_ ≠ gb151) (.slice Ao44 x3_1.length co44) x3_1) := ⟨h2_⟩; have n3_ : Aside0 (w52.heap[gb151]? = some (.cells #[.int .i64 ((rd_impl_Peg l0 x10_1).f0), .int .i64 ((rd_impl_Peg l0 x10_1).f1)] 41 (0, 0))) := ⟨h3_⟩; have n4_ : Aside0 (Below w.heap.size w w52) := ⟨h4_⟩; clear HO_3; clear BK151; clear HB; clear h0_ h1_ h2_ h3_ h4_; have HO186 := n0_; have HO189 := n1_; have HO_3 := n2_; have BK151 := n3_; have HB := n4_; clear n0_ n1_ n2_ n3_ n4_; have hHeld : w52.cell? ⟨gb151, 0, none⟩ = some (.int .i64 ((rd_impl_Peg l0 x10_1).f0)) ∧ w52.cell? ⟨gb151, 1, none⟩ = some (.int .i64 ((rd_impl_Peg l0 x10_1).f1)) := hS_; obtain ⟨Ao54, co54, eo54⟩ := Kd.R_slice HO189.out
       (first | subst eo54 | (injection eo54 with f1_ f2_ f3_; have f4_ := f1_.symm; have f5_ := f3_.symm; clear f1_ f2_ f3_; subst f4_; subst f5_))
       refine norm_ (a' := ?_) ?_ ?_
       rotate_left
       ·simp only [putAll, Act.put, sI, sZ, sS]
        rfl
       refine oU 7 35 (bA 9 255) HT_ (fun K hK => ?_)
       refine Kd.R_append_rows_step kd_impl_Peg (w0 := w) w.heap.size (by rfl) (.tmp 32) (.tmp 34) 26 41 (.agg #[(.int .i64 0), (.int .i64 0)]) 16 rfl Try.underlying26 info41 rfl (by decide) (by omega) v185 y184 y187 _ _ _ (fun k_ => some k_ ≠ (.slice Ao44 x3_1.length co44 : Value).ownBlock ∧ some k_ ≠ (.slice Ao54 y187.length co54 : Value).ownBlock ∧ k_ ≠ gb151) (fun _ => False) rfl rfl ?aO ?aR (fun _ _ h => h) (fun _ h => h.elim) ?aF ?aB ?aS ?aL ?_
       (case aR => repeat (first | exact (rR HO189.out).2.2 | (with_reducible refine cA ?_ _) | (with_reducible refine cN ?_ _) | (with_reducible refine cD ?_)))
       (case aB => exact bE)
       (case aF => exact (fun k_ hk => ⟨Kd.fresh' (Kd.R_lt (by (with_reducible repeat (first | apply rA | apply rN | apply rD)); exact HO_3.out)) k_ hk, Kd.fresh' (Kd.R_lt (by (with_reducible repeat (first | apply rA | apply rN | apply rD)); exact HO189.out)) k_ hk, Kd.freshB (g := gb151) (o := .cells #[.int .i64 ((rd_impl_Peg l0 x10_1).f0), .int .i64 ((rd_impl_Peg l0 x10_1).f1)] 41 (0, 0)) (gQ BK151) k_ hk⟩))
       (case aO => exact (by (with_reducible repeat (first | apply rA | apply rN | apply rD)); exact Kd.R_mono HO186.out (fun _ hk => ⟨hk.2.1, ⟨hk.1, hk.2.2⟩⟩)))
       (case aS => exact (pZ bE))
       (case aL => have := LMc39.out; omega)
       intro v191 w53 ho hb hg hat
       rw [← Ny190.out] at ho; have n0_ := aM (Kd.R_after (ok := (fun k_ => some k_ ≠ (.slice Ao54 y187.length co54 : Value).ownBlock ∧ k_ ≠ gb151)) (by (with_reducible repeat (first | apply rA | apply rN | apply rD)); exact Kd.R_mono HO_3.out (fun _ hk => ⟨⟨hk.2.1, hk.2.2⟩, hk.1⟩)) hg hat)
       have n1_ := aM (blk_grown (g := gb151) (o := .cells #[.int .i64 ((rd_impl_Peg l0 x10_1).f0), .int .i64 ((rd_impl_Peg l0 x10_1).f1)] 41 (0, 0)) (gQ BK151) hg (Kd.R_away HO186.out (fun _ hk => hk.2.2))); have n2_ := aM (Kd.R_after (ok := (fun k_ => some k_ ≠ (.slice Ao44 x3_1.length co44 : Value).ownBlock ∧ k_ ≠ gb151)) (by (with_reducible repeat (first | apply rA | apply rN | apply rD)); exact Kd.R_mono HO189.out (fun _ hk => ⟨⟨hk.2.1, hk.2.2⟩, hk.1⟩)) hg hat)
       have n3_ := aM (hb); have n4_ := aM (ho); clear HO_3; clear BK151; clear HO189; clear HB; clear HO186; have HO_3 := n0_; have BK151 := n1_; have HO189 := n2_; have HB := n3_; have HO192 := n4_; clear n0_ n1_ n2_ n3_ n4_; clear ho hb hg hat
       refine hK.out _ _ ⟨vZ0 BK151, vZ1 BK151⟩ (fun hHeld => ?_)
       clear hK K
       refine nU ?_
       refine pU 8 7 (bA 9 511) HT_ ?_
       refine done_ (done_of HT_.out kR) ?_
       have q55 : (x6_2 : Int) ≤ ((x3_1.length : Int) : Int) := dT aQ; obtain ⟨i055, hi055, _, hsz55, _⟩ := info_parts info41; have hroom55 : x3_1.length ≤ co44 := (rR HO_3.out).2.1; have hC55 : Kd.C kd_impl_Peg _ Ao44 x3_1.length x3_1 := (rR HO_3.out).2.2; have q055 : (0 : Int) ≤ (x6_2 : Int) := dT aQ; have hcut55 := cut_from (P := Try.prog) 26 41 .i64 Try.underlying26 hi055 2 hsz55 Ao44 x3_1.length co44 x6_2 q055 q55; have hr55 := Kd.C_drop (m := (x6_2 : Int).toNat) (c := co44) hC55 (by omega) hroom55
       obtain ⟨A55, hA55⟩ : ∃ A1, A1 = (if co44 = (x6_2 : Int).toNat then Ao44 else (Ao44 : Option Addr).map (·.add ((x6_2 : Int).toNat * 2))) := ⟨_, rfl⟩; obtain ⟨c55, hc55⟩ : ∃ c1, c1 = co44 - (x6_2 : Int).toNat := ⟨_, rfl⟩; have hy55 : y193.length = x3_1.length - (x6_2 : Int).toNat := (by rw [Ny193.out, lD] <;> omega)
       rw [show (x3_1).drop (x6_2 : Int).toNat = y193 from Ny193.out.symm] at hr55; replace hr55 : Kd.C kd_impl_Peg _ A55 y193.length y193 := (by rw [hA55]; exact hr55)
       rw [← hy55, ← hA55, ← hc55] at hcut55; have HR196 := aM hr55; have HC196 := aM (show y193.length ≤ c55 from by rw [hy55, hc55]; exact Nat.sub_le_sub_right hroom55 _)
       clear hr55 hC55 hroom55 hi055 hsz55 hc55; have KY55 := aM hy55; have KA55 := aM hA55; clear hy55 hA55; have KL55 := aM (show (x6_2 : Int).toNat ≤ x3_1.length from by omega)
       replace q55 := eq_true q55
       try go_wp2_with (first | ((with_reducible refine gate_builtin (b := .append) (xs := #[.tmp 36, .tmp 39]) rfl ?_); at_builtin; refine Kd.R_append_rows kd_impl_Peg (w0 := w) w.heap.size rfl (.tmp 36) (.tmp 39) 26 41 (.agg #[(.int .i64 0), (.int .i64 0)]) 16 rfl Try.underlying26 info41 rfl (by decide) (by omega) v191 y190 y193 _ _ _ (fun k_ => some k_ ≠ (.slice Ao44 x3_1.length co44 : Value).ownBlock ∧ some k_ ≠ (.slice Ao54 y187.length co54 : Value).ownBlock ∧ k_ ≠ gb151) (fun _ => False) rfl rfl ?aO ?aR (fun _ _ h => h) (fun _ h => h.elim) ?aF ?aB ?aS ?aL ?_; (case aR => repeat (first | exact (by repeat (first | (with_reducible exact HR196.out) | (with_reducible refine cA ?_ _) | (with_reducible refine cN ?_ _) | (with_reducible refine cD ?_) | exact HR196.out)) | (with_reducible refine cA ?_ _) | (with_reducible refine cN ?_ _) | (with_reducible refine cD ?_))); (case aB => exact bE); (case aF => exact (fun k_ hk => ⟨Kd.fresh' (Kd.R_lt (by (with_reducible repeat (first | apply rA | apply rN | apply rD)); exact HO_3.out)) k_ hk, Kd.fresh' (Kd.R_lt (by (with_reducible repeat (first | apply rA | apply rN | apply rD)); exact HO189.out)) k_ hk, Kd.freshB (g := gb151) (o := .cells #[.int .i64 ((rd_impl_Peg l0 x10_1).f0), .int .i64 ((rd_impl_Peg l0 x10_1).f1)] 41 (0, 0)) (gQ BK151) k_ hk⟩)); (case aO => exact (by (with_reducible repeat (first | apply rA | apply rN | apply rD)); exact HO192.out)); (case aS => exact (pZ bE)); (case aL => have := LMc42.out; omega); intro v198 w56 ho hb hg hat; rw [← Ny197.out] at ho; have n0_ := aM (Kd.R_after (ok := (fun k_ => some k_ ≠ (.slice Ao54 y187.length co54 : Value).ownBlock ∧ k_ ≠ gb151)) (by (with_reducible repeat (first | apply rA | apply rN | apply rD)); exact HO_3.out) hg hat); have n1_ := aM (blk_grown (g := gb151) (o := .cells #[.int .i64 ((rd_impl_Peg l0 x10_1).f0), .int .i64 ((rd_impl_Peg l0 x10_1).f1)] 41 (0, 0)) (gQ BK151) hg (Kd.R_away HO192.out (fun _ hk => hk.2.2))); have n2_ := aM (Kd.R_after (ok := (fun k_ => some k_ ≠ (.slice Ao44 x3_1.length co44 : Value).ownBlock ∧ k_ ≠ gb151)) (by (with_reducible repeat (first | apply rA | apply rN | apply rD)); exact HO189.out) hg hat); have n3_ := aM (hb); have n4_ := aM ((show Kd.C kd_impl_Peg w56 A55 y193.length y193 from by rw [Ny193.out, KA55.out]; exact Kd.C_drop (m := (x6_2 : Int).toNat) (c := co44) ((rR (Kd.R_after (ok := (fun k_ => some k_ ≠ (.slice Ao54 y187.length co54 : Value).ownBlock ∧ k_ ≠ gb151)) (by (with_reducible repeat (first | apply rA | apply rN | apply rD)); exact HO_3.out) hg hat)).2.2) KL55.out ((rR (Kd.R_after (ok := (fun k_ => some k_ ≠ (.slice Ao54 y187.length co54 : Value).ownBlock ∧ k_ ≠ gb151)) (by (with_reducible repeat (first | apply rA | apply rN | apply rD)); exact HO_3.out) hg hat)).2.1))); have n5_ := aM (ho); clear HO_3; clear BK151; clear HO189; clear HB; clear HR196; clear HO192; have HO_3 := n0_; have BK151 := n1_; have HO189 := n2_; have HB := n3_; have HR196 := n4_; have HO199 := n5_; clear n0_ n1_ n2_ n3_ n4_ n5_; clear ho hb hg hat))
       go_roundg k2
       case measure => have := HK1.out; have := HK2.out; omega
       case rel => exact ⟨(y197), (wrap64 (x10_1 + 1)), eQ, H', ⟨by have := HK1.out; have := HK2.out; omega⟩, ⟨by (with_reducible repeat (first | apply rA | apply rN | apply rD)); exact Kd.R_mono HO199.out (fun _ hk => trivial)⟩, ⟨bE⟩⟩
   ·rw [if_neg c2] at H; have c2b0 := decide_eq_false c2; clear c2; obtain rfl := Option.some.inj H; go_wp2
    go_ret
    exact ⟨_, by first | rfl | (simp [errW_none, errW_some] <;> rfl) | (simp [*, errW_none, errW_some] <;> rfl), by (with_reducible repeat (first | apply rA | apply rN | apply rD)); exact HO_3.out, bQ⟩

end Go.Proofs.Ytoeclfihlhmnpaa.X
