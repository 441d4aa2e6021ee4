-- thin
-- short
-- compact
import Derived.Test.YtoeclfihlhmnpaaXA
import Derived.Test.YtoeclfihlhmnpaaX0
import Derived.Test.YtoeclfihlhmnpaaX17
namespace Go.Proofs.Ytoeclfihlhmnpaa.X
open Go.RowKit Go.Proofs.Ytoeclfihlhmnpaa.XW Go.Proofs.YtoeclfihlhmnpaaW.PrintWords Go.Proofs.YtoeclfihlhmnpaaW.PrintLast Go.Proofs.YtoeclfihlhmnpaaW.PrintMore
attribute [local go_sem] max2_int min2_int max_two min_two max_three min_three max_four min_four   -- for this text's walks alone
set_option linter.unusedVariables false
set_option linter.unusedSimpArgs false

mutual
def impl_chain.l0 : Nat → List (S_impl_Peg) → List (S_impl_Peg) → Int → Int → Option ((List (S_impl_Peg)))
 | 0, _, _, _, _ => none
 | k + 1, x3, x7, x8, x9 => if x9 < x8 then (if 0 ≤ x9 then (if x9 < (x7.length : Int) then (impl_chain.l1 k x3 x7 x8 x9 ((rd_impl_Peg x7 x9).f0) ((rd_impl_Peg x7 x9).f1)) else (none)) else (none)) else (some x3)
def impl_chain.l1 : Nat → List (S_impl_Peg) → List (S_impl_Peg) → Int → Int → Int → Int → Option ((List (S_impl_Peg)))
 | 0, _, _, _, _, _, _ => none
 | k + 1, x3, x7, x8, x9, x417000, x417001 => if (x3.length : Int) > 1 then (if 0 ≤ (wrap64 ((x3.length : Int) - 2)) then (if (wrap64 ((x3.length : Int) - 2)) < (x3.length : Int) then (if 0 ≤ (wrap64 ((x3.length : Int) - 1)) then (if (wrap64 ((x3.length : Int) - 1)) < (x3.length : Int) then ((impl_turn.f ((rd_impl_Peg x3 (wrap64 ((x3.length : Int) - 2))).f0) ((rd_impl_Peg x3 (wrap64 ((x3.length : Int) - 2))).f1) ((rd_impl_Peg x3 (wrap64 ((x3.length : Int) - 1))).f0) ((rd_impl_Peg x3 (wrap64 ((x3.length : Int) - 1))).f1) x417000 x417001).bind fun t419 => (if t419 ≤ 0 then (if (wrap64 ((x3.length : Int) - 1)) ≤ (x3.length : Int) then (impl_chain.l1 k (x3.take ((wrap64 ((x3.length : Int) - 1)) : Int).toNat) x7 x8 x9 x417000 x417001) else (none)) else (if x3.length < 8796093022208 then (impl_chain.l0 k (x3 ++ [(⟨x417000, x417001⟩ : S_impl_Peg)]) x7 x8 (wrap64 (x9 + 1))) else (none)))) else (none)) else (none)) else (none)) else (none)) else (if x3.length < 8796093022208 then (impl_chain.l0 k (x3 ++ [(⟨x417000, x417001⟩ : S_impl_Peg)]) x7 x8 (wrap64 (x9 + 1))) else (none))
end
def impl_chain.f (k : Nat) (l0 : List (S_impl_Peg)) : Option ((List (S_impl_Peg))) := impl_chain.l0 k (([] : List (S_impl_Peg))) l0 (l0.length : Int) 0
theorem impl_chain.mono_l : ∀ k, (∀ y0 y1 y2 y3, LeO (impl_chain.l0 k y0 y1 y2 y3) (impl_chain.l0 (k + 1) y0 y1 y2 y3)) ∧ (∀ y0 y1 y2 y3 y4 y5, LeO (impl_chain.l1 k y0 y1 y2 y3 y4 y5) (impl_chain.l1 (k + 1) y0 y1 y2 y3 y4 y5))
 | 0 => ⟨fun _ _ _ _ r h => by simp [impl_chain.l0] at h, fun _ _ _ _ _ _ r h => by simp [impl_chain.l1] at h⟩
 | k + 1 => by
  obtain ⟨ih0, ih1⟩ := impl_chain.mono_l k
  refine ⟨?_, ?_⟩ <;> intros <;> (first | unfold impl_chain.l0 | unfold impl_chain.l1) <;> repeat' first | (with_reducible exact ih0 _ _ _ _) | (with_reducible exact ih1 _ _ _ _ _ _) | (with_reducible exact LeO.refl _) | (with_reducible exact LeO.none _) | (with_reducible refine LeO.ite ?_ ?_) | (with_reducible refine LeO.bind ?_ (fun _ => ?_)) | exact ih0 _ _ _ _ | exact ih1 _ _ _ _ _ _ | exact LeO.none _ | refine LeO.ite ?_ ?_ | refine LeO.bind ?_ (fun _ => ?_)
theorem impl_chain.mono : ∀ a0 k, LeO (impl_chain.f k a0) (impl_chain.f (k + 1) a0) := by
 intro a0 k
 obtain ⟨ih0, ih1⟩ := impl_chain.mono_l k
 unfold impl_chain.f
 repeat' first | (with_reducible exact ih0 _ _ _ _) | (with_reducible exact ih1 _ _ _ _ _ _) | (with_reducible exact LeO.refl _) | (with_reducible exact LeO.none _) | (with_reducible refine LeO.ite ?_ ?_) | (with_reducible refine LeO.bind ?_ (fun _ => ?_)) | exact ih0 _ _ _ _ | exact ih1 _ _ _ _ _ _ | exact LeO.none _ | refine LeO.ite ?_ ?_ | refine LeO.bind ?_ (fun _ => ?_)
def impl_chain.T5 : Bool × List (List Nat × List Nat) := (true, [([], []), ([0], [0]), ([1], [1]), ([2], [2]), ([3], [3]), ([3], [3]), ([5, 3], [3, 5]), ([6, 3], [3, 6]), ([4, 7, 3], [3, 4, 7]), ([8, 3], [3, 8]), ([3], [3]), ([3], [3]), ([11, 3], [3, 11]), ([12, 3], [3, 12]), ([10, 13, 3], [3, 10, 13]), ([14, 3], [3, 14]), ([3], [3]), ([9, 15, 16, 3, 3], [3, 9, 15, 16]), ([17, 3], [3, 17]), ([3, 18], [3, 18])])
def impl_chain.B5 : List Nat := [0, 1, 3, 7, 15, 15, 47, 111, 255, 511, 15, 15, 2063, 6159, 15375, 31759, 15, 131071, 262143, 524287]
theorem impl_chain.tab5 : rtab .any (opsOf Try.f83 5) = impl_chain.T5 := by kernel_rfl
theorem impl_chain.bits5 : waitsOk impl_chain.T5.2 impl_chain.B5 = true := by kernel_rfl
set_option maxHeartbeats 8000000 in
set_option maxRecDepth 100000 in
theorem impl_chain.calls (k : Nat) (A0 : Option Addr) (c0 : Nat) (l0 : List (S_impl_Peg)) (r : List (S_impl_Peg)) (w : World) (hr0 : Kd.C kd_impl_Peg w A0 l0.length l0) (hc0 : l0.length ≤ c0) (h : impl_chain.f k l0 = some r) :
  Calls Try.prog 83 #[.slice A0 l0.length c0] w fun e w' => ∃ v0_ : Value, e = .returned (v0_) ∧ Kd.R kd_impl_Peg 41 w' w.heap.size (fun _ => True) v0_ r ∧ Below w.heap.size w w' := by
 have hu41 := Try.underlying41; have HR0 := aM hr0; have HC0 := aM hc0; clear hr0 hc0; have HB := aM (Below.refl w.heap.size w)
 unfold impl_chain.f at h; have H := h; clear h
 obtain ⟨y412, hy412⟩ : ∃ y_ : List (S_impl_Peg), y_ = (([] : List (S_impl_Peg))) := ⟨_, rfl⟩; rw [← hy412] at H; have Ny412 := aM hy412; clear hy412; have H' := aM H; clear H
 go_enter Try.func83, Try.ntmps83
 go_wp2_with (first | ((with_reducible refine gate_dst (N := 6) rfl ?_); (try (refine gate_guard (by rfl) ?_; dsimp only)); refine Kd.R_lit kd_impl_Peg _ 41 ?hg (N := 6) ?hd (xs := ([] : List (S_impl_Peg))) (inner := []) (ok := fun _ => True) (okp := fun _ => True) ?hr ?hp (fun _ hk => hk) trivial (Below.refl _ _) (Nat.le_refl _) (by simp) ?_; (case hd => rfl); (case hg => rfl); (case hr => first | (go_simp; done) | (go_simp; rfl)); (case hp => exact (Reps.none _ _)); intro v413 w2 ho3 hb hg_ hnew_; clear hg_ hnew_; (first | rw [← Ny412.out] at ho3 | (simp only [Int.reduceToNat] at ho3; rw [← Ny412.out] at ho3)); have HO414 := aM (Kd.R_lower ho3 (pZ bQ)); replace HB := tB HB hb; clear hb ho3))
 go_loopg [3, 9] k (fun kq v3 v9 w' => ∃ (x3_1 : List (S_impl_Peg)) (x9_1 : Int), v9 = .int .i64 x9_1 ∧ Aside0 (impl_chain.l0 kq x3_1 l0 (l0.length : Int) x9_1 = some r) ∧ Aside0 (kq ≤ k) ∧ Aside0 (Kd.R kd_impl_Peg 41 w' w.heap.size (fun _ => True) v3 x3_1) ∧ Aside0 (Below w.heap.size w w'))
 case atStart => exact ⟨(y412), (0), eQ, H', ⟨Nat.le_refl _⟩, ⟨by (with_reducible repeat (first | apply rA | apply rN | apply rD)); exact HO414.out⟩, ⟨bQ⟩⟩
 case round =>
  clear H'; obtain ⟨x3_1, x9_1, rfl, HA, HK1, HO_3, HB⟩ := hrel
  cases gk with
  | zero => exact absurd HA.out (by simp [impl_chain.l0])
  | succ k1 =>
   have H := HA.out; clear HA
   simp only [impl_chain.l0] at H
   by_cases c4 : x9_1 < (l0.length : Int)
   ·rw [if_pos c4] at H; have c4b0 := dE c4; clear c4; replace H := iD H; obtain ⟨c5b0, H⟩ := H; replace H := iD H; obtain ⟨c6b0, H⟩ := H; have H' := aM H; clear H; have p415 : 0 ≤ (x9_1 : Int) := dT aQ; have q415 : x9_1 < (l0.length : Int) := dT aQ; obtain ⟨ad415, e415, hx415_0, hx415_1⟩ := at_impl_Peg HR0.out x9_1 p415 q415
    cases e415
    replace hx415_0 := hC HB hx415_0; replace hx415_1 := hC HB hx415_1; replace p415 := eq_true p415; replace q415 := eq_true q415
    go_wp2_with (first | ((with_reducible refine gate_dst (N := 5) rfl ?_); (try (refine gate_guard (by rfl) ?_; dsimp only)); refine bV 5 (cs := #[.int .i64 0, .int .i64 0]) (t := 41) rfl rfl (by first | (go_simp; done) | (go_simp; rfl)) ?_; intro gb416 hg w7 hbox hb; have BK416 := hbox; have GW416 := gZ HB hg; have GE416 := gZ HB hg; replace HO_3 := aM (Kd.R_below (Kd.R_elderB (by (with_reducible repeat (first | apply rA | apply rN | apply rD)); exact HO_3.out) gb416 (Nat.le_of_eq hg.symm)) hb); replace HB := tB HB hb; clear hb hbox hg; have hcz8_0 := vZ0 BK416; have hcz8_1 := vZ1 BK416; have hfz8_0 := kF BK416.out 0; have hfz8_1 := kF BK416.out 1))
    go_loopg [3] k1 (fun kq v3 w' => ∃ (x3_2 : List (S_impl_Peg)), Aside0 (impl_chain.l1 kq x3_2 l0 (l0.length : Int) x9_1 ((rd_impl_Peg l0 x9_1).f0) ((rd_impl_Peg l0 x9_1).f1) = some r) ∧ Aside0 (kq ≤ k1) ∧ Aside0 (Kd.R kd_impl_Peg 41 w' w.heap.size (fun k_ => k_ ≠ gb416) v3 x3_2) ∧ Aside0 (w'.heap[gb416]? = some (.cells #[.int .i64 ((rd_impl_Peg l0 x9_1).f0), .int .i64 ((rd_impl_Peg l0 x9_1).f1)] 41 (0, 0))) ∧ Aside0 (Below w.heap.size w w'))
    case atStart => exact ⟨(x3_1), H', ⟨Nat.le_refl _⟩, ⟨by (with_reducible repeat (first | apply rA | apply rN | apply rD)); exact Kd.R_mono (Kd.R_far (p := ⟨gb416, 1, none⟩) (Kd.R_far (p := ⟨gb416, 0, none⟩) (Kd.R_mono HO_3.out (fun k_ hk => (⟨hk, hk.2⟩ : _ ∧ k_ ≠ gb416))) (fun _ hk => hk.2) (.int .i64 ((rd_impl_Peg l0 x9_1).f0))) (fun _ hk => hk.2) (.int .i64 ((rd_impl_Peg l0 x9_1).f1))) (fun _ hk => hk.1.2)⟩, ⟨fQ BK416⟩, ⟨bE⟩⟩
    case round =>
     clear H'; (try clear c4); (try clear c4b0); (try clear c5b0); (try clear c6b0); (try clear hcz8_0); (try clear hcz8_1); (try clear hfz8_0); (try clear hfz8_1); (try clear hx415_0); (try clear hx415_1); (try clear p415); (try clear q415); obtain ⟨x3_2, HA, HK2, HO_3, BK416, HB⟩ := hrel
     cases gk with
     | zero => exact absurd HA.out (by simp [impl_chain.l1])
     | succ k2 =>
      have H := HA.out; clear HA
      simp only [impl_chain.l1] at H
      by_cases c9 : (x3_2.length : Int) > 1
      ·rw [if_pos c9] at H; have c9b0 := dE c9; have c9b1 : decide (1 < x3_2.length) = true := dE (by omega)
       clear c9; obtain ⟨ji10, hji10⟩ : ∃ j_ : Int, (wrap64 ((x3_2.length : Int) - 2)) = j_ := ⟨_, rfl⟩
       (first | rw [hji10] at H | simp only [hji10] at H)
       have hji10w : (IntKind.i64.wrap ((x3_2.length : Int) - 2)) = ji10 := (i64_w _).trans hji10; replace H := iD H; obtain ⟨c11b0, H⟩ := H; replace H := iD H; obtain ⟨c12b0, H⟩ := H; obtain ⟨ji13, hji13⟩ : ∃ j_ : Int, (wrap64 ((x3_2.length : Int) - 1)) = j_ := ⟨_, rfl⟩
       (first | rw [hji13] at H | simp only [hji13] at H)
       have hji13w : (IntKind.i64.wrap ((x3_2.length : Int) - 1)) = ji13 := (i64_w _).trans hji13; replace H := iD H; obtain ⟨c14b0, H⟩ := H; replace H := iD H; obtain ⟨c15b0, H⟩ := H; replace H := bS H; obtain ⟨t419, A16, H⟩ := H
       by_cases c17 : t419 ≤ 0
       ·rw [if_pos c17] at H; have c17b0 := dE c17; clear c17; replace H := iN H; obtain ⟨c18, H⟩ := H; have c18b0 := eq_true c18; have c18b1 := dE c18; clear c18; obtain ⟨y420, hy420⟩ : ∃ y_ : List (S_impl_Peg), y_ = (x3_2.take ((ji13) : Int).toNat) := ⟨_, rfl⟩; rw [← hy420] at H; have Ny420 := aM hy420; clear hy420; have H' := aM H; clear H
        try go_wp2
        replace HO_3 := aM (rD HO_3.out); replace BK416 := aM (kD BK416.out); replace HB := aM (pD HB.out); obtain ⟨Ao20, co20, eo20⟩ := Kd.R_slice HO_3.out
        (first | subst eo20 | (injection eo20 with f1_ f2_ f3_; have f4_ := f1_.symm; have f5_ := f3_.symm; clear f1_ f2_ f3_; subst f4_; subst f5_))
        have p417 : 0 ≤ ((ji10) : Int) := dT aQ; have q417 : (ji10) < (x3_2.length : Int) := dT aQ; obtain ⟨ad417, e417, hx417_0, hx417_1⟩ := at_impl_Peg (rR HO_3.out).2.2 (ji10) p417 q417
        cases e417
        replace p417 := eq_true p417; replace q417 := eq_true q417; have p418 : 0 ≤ ((ji13) : Int) := dT aQ; have q418 : (ji13) < (x3_2.length : Int) := dT aQ; obtain ⟨ad418, e418, hx418_0, hx418_1⟩ := at_impl_Peg (rR HO_3.out).2.2 (ji13) p418 q418; obtain rfl : ad417 = ad418 := (by injection e418)
        replace p418 := eq_true p418; replace q418 := eq_true q418
        refine start_ (n := 20) (S := fun w' => w'.cell? ⟨gb416, 0, none⟩ = some (.int .i64 ((rd_impl_Peg l0 x9_1).f0)) ∧ w'.cell? ⟨gb416, 1, none⟩ = some (.int .i64 ((rd_impl_Peg l0 x9_1).f1)) ∧ w'.cell? (ad417.add (((ji10)).toNat * 2)) = some (.int .i64 ((rd_impl_Peg x3_2 (ji10)).f0)) ∧ w'.cell? ⟨(ad417.add (((ji10)).toNat * 2)).block, (ad417.add (((ji10)).toNat * 2)).off + 1, none⟩ = some (.int .i64 ((rd_impl_Peg x3_2 (ji10)).f1)) ∧ w'.cell? (ad417.add (((ji13)).toNat * 2)) = some (.int .i64 ((rd_impl_Peg x3_2 (ji13)).f0)) ∧ w'.cell? ⟨(ad417.add (((ji13)).toNat * 2)).block, (ad417.add (((ji13)).toNat * 2)).off + 1, none⟩ = some (.int .i64 ((rd_impl_Peg x3_2 (ji13)).f1))) (ds := []) (bA 20 0) kR rfl kR ⟨vZ0 BK416, vZ1 BK416, hx417_0, hx417_1, hx418_0, hx418_1⟩ (fun hHeld => ?_); refine with_tabW impl_chain.tab5 impl_chain.bits5 (fun HT_ HW_ => ?_)
        generalize wr.drew = w19 at HO_3 BK416 HB hx417_0 hx417_1 hx418_0 hx418_1 hHeld ⊢
        refine pU 0 13 (bA 20 1) HT_ ?_; refine pU 1 14 (bA 20 3) HT_ ?_; refine pU 2 15 (bA 20 7) HT_ ?_; refine pU 3 16 (bA 20 15) HT_ ?_; refine pU 4 17 (bA 20 31) HT_ ?_; refine pU 5 18 (bA 20 63) HT_ ?_; refine pU 6 19 (bA 20 127) HT_ ?_; refine pU 7 20 (bA 20 255) HT_ ?_; refine pU 8 21 (bA 20 511) HT_ ?_; refine pU 10 23 (bA 20 1535) HT_ ?_; refine pU 11 24 (bA 20 3583) HT_ ?_; refine pU 12 25 (bA 20 7679) HT_ ?_; refine pU 13 26 (bA 20 15871) HT_ ?_; refine pU 14 27 (bA 20 32255) HT_ ?_
        refine tU 9 22 (bA 20 32767) HT_ HW_ hHeld ?_ (hy := Or.inl ⟨by rfl, by rintro w' ⟨s0, s1, s2, s3, s4, s5⟩; go_simp; with_reducible rfl⟩)
        refine tU 15 28 (bA 20 65535) HT_ HW_ hHeld ?_ (hy := Or.inl ⟨by rfl, by rintro w' ⟨s0, s1, s2, s3, s4, s5⟩; go_simp; with_reducible rfl⟩)
        refine tU 16 29 (bA 20 131071) HT_ HW_ hHeld ?_ (hy := Or.inl ⟨by rfl, by rintro w' ⟨s0, s1, s2, s3, s4, s5⟩; go_simp; with_reducible rfl⟩)
        refine oU 17 30 (bA 20 262143) HT_ (fun K hK => ?_)
        refine goes_ Try.func109 kR rfl #[.agg #[.int .i64 ((rd_impl_Peg x3_2 (ji10)).f0), .int .i64 ((rd_impl_Peg x3_2 (ji10)).f1)], .agg #[.int .i64 ((rd_impl_Peg x3_2 (ji13)).f0), .int .i64 ((rd_impl_Peg x3_2 (ji13)).f1)], .agg #[.int .i64 ((rd_impl_Peg l0 x9_1).f0), .int .i64 ((rd_impl_Peg l0 x9_1).f1)]] (by rfl) rfl rfl (by (try simp only [mA, mC, mN]); first | done | (simp only [hji10, hji13]; rfl) | rfl | (simp only [lD, lT]; rfl)) ?_
        with_reducible refine (impl_turn.calls ((rd_impl_Peg x3_2 (ji10)).f0) ((rd_impl_Peg x3_2 (ji10)).f1) ((rd_impl_Peg x3_2 (ji13)).f0) ((rd_impl_Peg x3_2 (ji13)).f1) ((rd_impl_Peg l0 x9_1).f0) ((rd_impl_Peg l0 x9_1).f1) t419 _ A16.out).mono ?_
        rintro e w21 ⟨rfl, hb⟩; have HS2_ := (hb.cell (wB _ _ (hHeld.2.2.1))).trans (hHeld.2.2.1); have HS3_ := (hb.cell (wB _ _ (hHeld.2.2.2.1))).trans (hHeld.2.2.2.1); have HS4_ := (hb.cell (wB _ _ (hHeld.2.2.2.2.1))).trans (hHeld.2.2.2.2.1); have HS5_ := (hb.cell (wB _ _ (hHeld.2.2.2.2.2))).trans (hHeld.2.2.2.2.2); refine ⟨_, rfl, ?_⟩; replace HO_3 := aM (Kd.R_below (by (with_reducible repeat (first | apply rA | apply rN | apply rD)); exact HO_3.out) hb); replace BK416 := bB BK416 hb; replace HB := tB HB hb
        (try clear hb); (try clear hb2); (try clear hk); (try clear hi)
        refine hK.out _ _ ⟨vZ0 BK416, vZ1 BK416, HS2_, HS3_, HS4_, HS5_⟩ (fun hHeld => ?_)
        clear hK K
        refine nU ?_
        refine pU 18 31 (bA 20 524287) HT_ ?_; refine pU 19 32 (bA 20 1048575) HT_ ?_
        refine done_ (done_of HT_.out kR) ?_
        have q22 : ((ji13) : Int) ≤ ((x3_2.length : Int) : Int) := dT aQ; obtain ⟨i022, hi022, _, hsz22, _⟩ := info_parts info41; have hcut22 := cut_to (P := Try.prog) 26 41 .i64 Try.underlying26 hi022 (some ad417) x3_2.length co20 (ji13) (dT aQ) q22 (rR HO_3.out).2.1; have hr22 := Kd.R_take (m := ((ji13) : Int).toNat) HO_3.out (by omega)
        have hy22 : y420.length = ((ji13) : Int).toNat := (by rw [Ny420.out, lT]; omega)
        rw [← Ny420.out] at hr22; rw [← hy22] at hr22 hcut22; clear hy22 hi022 hsz22 HO_3; have HO422 := aM hr22; clear hr22; replace q22 := eq_true q22
        try go_wp2
        go_roundg k2
        case measure => have := HK1.out; have := HK2.out; omega
        case rel => exact ⟨(y420), H', ⟨by have := HK1.out; have := HK2.out; omega⟩, ⟨by (with_reducible repeat (first | apply rA | apply rN | apply rD)); exact HO422.out⟩, ⟨gQ BK416⟩, ⟨bE⟩⟩
       ·rw [if_neg c17] at H; have c17b0 := decide_eq_false c17; clear c17; replace H := iN H; obtain ⟨c23, H⟩ := H; have LMc23 := aM c23; clear c23; obtain ⟨y423, hy423⟩ : ∃ y_ : List (S_impl_Peg), y_ = (x3_2 ++ [(⟨((rd_impl_Peg l0 x9_1).f0), ((rd_impl_Peg l0 x9_1).f1)⟩ : S_impl_Peg)]) := ⟨_, rfl⟩; rw [← hy423] at H; have Ny423 := aM hy423; clear hy423; have H' := aM H; clear H
        try go_wp2
        replace HO_3 := aM (rD HO_3.out); replace BK416 := aM (kD BK416.out); replace HB := aM (pD HB.out); obtain ⟨Ao25, co25, eo25⟩ := Kd.R_slice HO_3.out
        (first | subst eo25 | (injection eo25 with f1_ f2_ f3_; have f4_ := f1_.symm; have f5_ := f3_.symm; clear f1_ f2_ f3_; subst f4_; subst f5_))
        have p417 : 0 ≤ ((ji10) : Int) := dT aQ; have q417 : (ji10) < (x3_2.length : Int) := dT aQ; obtain ⟨ad417, e417, hx417_0, hx417_1⟩ := at_impl_Peg (rR HO_3.out).2.2 (ji10) p417 q417
        cases e417
        replace p417 := eq_true p417; replace q417 := eq_true q417; have p418 : 0 ≤ ((ji13) : Int) := dT aQ; have q418 : (ji13) < (x3_2.length : Int) := dT aQ; obtain ⟨ad418, e418, hx418_0, hx418_1⟩ := at_impl_Peg (rR HO_3.out).2.2 (ji13) p418 q418; obtain rfl : ad417 = ad418 := (by injection e418)
        replace p418 := eq_true p418; replace q418 := eq_true q418
        refine start_ (n := 20) (S := fun w' => w'.cell? ⟨gb416, 0, none⟩ = some (.int .i64 ((rd_impl_Peg l0 x9_1).f0)) ∧ w'.cell? ⟨gb416, 1, none⟩ = some (.int .i64 ((rd_impl_Peg l0 x9_1).f1)) ∧ w'.cell? (ad417.add (((ji10)).toNat * 2)) = some (.int .i64 ((rd_impl_Peg x3_2 (ji10)).f0)) ∧ w'.cell? ⟨(ad417.add (((ji10)).toNat * 2)).block, (ad417.add (((ji10)).toNat * 2)).off + 1, none⟩ = some (.int .i64 ((rd_impl_Peg x3_2 (ji10)).f1)) ∧ w'.cell? (ad417.add (((ji13)).toNat * 2)) = some (.int .i64 ((rd_impl_Peg x3_2 (ji13)).f0)) ∧ w'.cell? ⟨(ad417.add (((ji13)).toNat * 2)).block, (ad417.add (((ji13)).toNat * 2)).off + 1, none⟩ = some (.int .i64 ((rd_impl_Peg x3_2 (ji13)).f1))) (ds := []) (bA 20 0) kR rfl kR ⟨vZ0 BK416, vZ1 BK416, hx417_0, hx417_1, hx418_0, hx418_1⟩ (fun hHeld => ?_); refine with_tabW impl_chain.tab5 impl_chain.bits5 (fun HT_ HW_ => ?_)
        generalize wr.drew = w24 at HO_3 BK416 HB hx417_0 hx417_1 hx418_0 hx418_1 hHeld ⊢
        refine pU 0 13 (bA 20 1) HT_ ?_; refine pU 1 14 (bA 20 3) HT_ ?_; refine pU 2 15 (bA 20 7) HT_ ?_; refine pU 3 16 (bA 20 15) HT_ ?_; refine pU 4 17 (bA 20 31) HT_ ?_; refine pU 5 18 (bA 20 63) HT_ ?_; refine pU 6 19 (bA 20 127) HT_ ?_; refine pU 7 20 (bA 20 255) HT_ ?_; refine pU 8 21 (bA 20 511) HT_ ?_; refine pU 10 23 (bA 20 1535) HT_ ?_; refine pU 11 24 (bA 20 3583) HT_ ?_; refine pU 12 25 (bA 20 7679) HT_ ?_; refine pU 13 26 (bA 20 15871) HT_ ?_; refine pU 14 27 (bA 20 32255) HT_ ?_
        refine tU 9 22 (bA 20 32767) HT_ HW_ hHeld ?_ (hy := Or.inl ⟨by rfl, by rintro w' ⟨s0, s1, s2, s3, s4, s5⟩; go_simp; with_reducible rfl⟩)
        refine tU 15 28 (bA 20 65535) HT_ HW_ hHeld ?_ (hy := Or.inl ⟨by rfl, by rintro w' ⟨s0, s1, s2, s3, s4, s5⟩; go_simp; with_reducible rfl⟩)
        refine tU 16 29 (bA 20 131071) HT_ HW_ hHeld ?_ (hy := Or.inl ⟨by rfl, by rintro w' ⟨s0, s1, s2, s3, s4, s5⟩; go_simp; with_reducible rfl⟩)
        refine oU 17 30 (bA 20 262143) HT_ (fun K hK => ?_)
        refine goes_ Try.func109 kR rfl #[.agg #[.int .i64 ((rd_impl_Peg x3_2 (ji10)).f0), .int .i64 ((rd_impl_Peg x3_2 (ji10)).f1)], .agg #[.int .i64 ((rd_impl_Peg x3_2 (ji13)).f0), .int .i64 ((rd_impl_Peg x3_2 (ji13)).f1)], .agg #[.int .i64 ((rd_impl_Peg l0 x9_1).f0), .int .i64 ((rd_impl_Peg l0 x9_1).f1)]] (by rfl) rfl rfl (by (try simp only [mA, mC, mN]); first | done | (simp only [hji10, hji13]; rfl) | rfl | (simp only [lD, lT]; rfl)) ?_
        with_reducible refine (impl_turn.calls ((rd_impl_Peg x3_2 (ji10)).f0) ((rd_impl_Peg x3_2 (ji10)).f1) ((rd_impl_Peg x3_2 (ji13)).f0) ((rd_impl_Peg x3_2 (ji13)).f1) ((rd_impl_Peg l0 x9_1).f0) ((rd_impl_Peg l0 x9_1).f1) t419 _ A16.out).mono ?_
        rintro e w26 ⟨rfl, hb⟩; have HS2_ := (hb.cell (wB _ _ (hHeld.2.2.1))).trans (hHeld.2.2.1); have HS3_ := (hb.cell (wB _ _ (hHeld.2.2.2.1))).trans (hHeld.2.2.2.1); have HS4_ := (hb.cell (wB _ _ (hHeld.2.2.2.2.1))).trans (hHeld.2.2.2.2.1); have HS5_ := (hb.cell (wB _ _ (hHeld.2.2.2.2.2))).trans (hHeld.2.2.2.2.2); refine ⟨_, rfl, ?_⟩; replace HO_3 := aM (Kd.R_below (by (with_reducible repeat (first | apply rA | apply rN | apply rD)); exact HO_3.out) hb); replace BK416 := bB BK416 hb; replace HB := tB HB hb
        (try clear hb); (try clear hb2); (try clear hk); (try clear hi)
        refine hK.out _ _ ⟨vZ0 BK416, vZ1 BK416, HS2_, HS3_, HS4_, HS5_⟩ (fun hHeld => ?_)
        clear hK K
        refine nU ?_
        refine pU 18 31 (bA 20 524287) HT_ ?_; refine pU 19 32 (bA 20 1048575) HT_ ?_
        refine done_ (done_of HT_.out kR) ?_
        have hcz27_0 := vZ0 BK416; have hcz27_1 := vZ1 BK416; have hfz27_0 := kF BK416.out 0; have hfz27_1 := kF BK416.out 1
        try go_wp2_with (first | ((with_reducible refine gate_builtin (b := .append) (xs := #[.tmp 38, .tmp 40]) rfl ?_); (try (refine gate_guard (by rfl) ?_; dsimp only)); at_builtin; refine Kd.R_append kd_impl_Peg (w0 := w) w.heap.size rfl (.tmp 38) (.tmp 40) 26 41 (.agg #[(.int .i64 0), (.int .i64 0)]) 16 rfl Try.underlying26 info41 rfl (by decide) (by omega) (.slice (some ad417) x3_2.length co25) x3_2 (⟨((rd_impl_Peg l0 x9_1).f0), ((rd_impl_Peg l0 x9_1).f1)⟩ : S_impl_Peg) [.int .i64 ((rd_impl_Peg l0 x9_1).f0), .int .i64 ((rd_impl_Peg l0 x9_1).f1)] (fun k_ => k_ ≠ gb416) (fun _ => False) rfl rfl ?aP (fun _ hk => hk.elim) ?aF ?aO ?aB ?aS ?aL ?_; (case aP => exact kd_impl_Peg_mkM _ _ _ (⟨((rd_impl_Peg l0 x9_1).f0), ((rd_impl_Peg l0 x9_1).f1)⟩ : S_impl_Peg)); (case aB => exact bE); (case aF => exact (fun k_ hk => Kd.freshB (g := gb416) (o := .cells #[.int .i64 ((rd_impl_Peg l0 x9_1).f0), .int .i64 ((rd_impl_Peg l0 x9_1).f1)] 41 (0, 0)) (gQ BK416) k_ hk)); (case aO => exact (by (with_reducible repeat (first | apply rA | apply rN | apply rD)); exact HO_3.out)); (case aS => exact (pZ bE)); (case aL => have := LMc23.out; omega); intro v424 w28 ho hb hg hat; rw [← Ny423.out] at ho; have n0_ := aM (blk_grown (g := gb416) (o := .cells #[.int .i64 ((rd_impl_Peg l0 x9_1).f0), .int .i64 ((rd_impl_Peg l0 x9_1).f1)] 41 (0, 0)) (gQ BK416) hg (Kd.R_away HO_3.out (fun _ hk => hk))); have n1_ := aM (hb); have n2_ := aM (ho); clear BK416; clear HB; clear HO_3; have BK416 := n0_; have HB := n1_; have HO425 := n2_; clear n0_ n1_ n2_; clear ho hb hg hat))
        go_roundg k2
        case measure => have := HK1.out; have := HK2.out; omega
        case rel => exact ⟨(y423), (wrap64 (x9_1 + 1)), eQ, H', ⟨by have := HK1.out; have := HK2.out; omega⟩, ⟨by (with_reducible repeat (first | apply rA | apply rN | apply rD)); exact Kd.R_mono HO425.out (fun _ hk => trivial)⟩, ⟨bE⟩⟩
      ·rw [if_neg c9] at H; have c9b0 := decide_eq_false c9; have c9b1 : decide (1 < x3_2.length) = false := decide_eq_false (by omega)
       clear c9; replace H := iN H; obtain ⟨c29, H⟩ := H; have LMc29 := aM c29; clear c29; obtain ⟨y426, hy426⟩ : ∃ y_ : List (S_impl_Peg), y_ = (x3_2 ++ [(⟨((rd_impl_Peg l0 x9_1).f0), ((rd_impl_Peg l0 x9_1).f1)⟩ : S_impl_Peg)]) := ⟨_, rfl⟩; rw [← hy426] at H; have Ny426 := aM hy426; clear hy426; have H' := aM H; clear H
       try go_wp2
       replace HO_3 := aM (rD HO_3.out); replace BK416 := aM (kD BK416.out); replace HB := aM (pD HB.out); obtain ⟨Ao31, co31, eo31⟩ := Kd.R_slice HO_3.out
       (first | subst eo31 | (injection eo31 with f1_ f2_ f3_; have f4_ := f1_.symm; have f5_ := f3_.symm; clear f1_ f2_ f3_; subst f4_; subst f5_))
       refine start_ (n := 20) (S := fun w' => True) (ds := []) (bA 20 0) kR rfl kR trivial (fun hHeld => ?_); refine with_tabW impl_chain.tab5 impl_chain.bits5 (fun HT_ HW_ => ?_)
       generalize wr.drew = w30 at HO_3 BK416 HB hHeld ⊢
       refine pU 0 13 (bA 20 1) HT_ ?_; refine pU 1 14 (bA 20 3) HT_ ?_; refine pU 2 15 (bA 20 7) HT_ ?_; refine pU 3 16 (bA 20 15) HT_ ?_; refine pU 4 17 (bA 20 31) HT_ ?_ (hy := Or.inr ⟨by rfl, rfl⟩)
       refine pU 5 18 (bA 20 63) HT_ ?_ (hy := Or.inr ⟨by rfl, rfl⟩)
       refine pU 6 19 (bA 20 127) HT_ ?_ (hy := Or.inr ⟨by rfl, rfl⟩)
       refine pU 7 20 (bA 20 255) HT_ ?_ (hy := Or.inr ⟨by rfl, rfl⟩)
       refine pU 8 21 (bA 20 511) HT_ ?_ (hy := Or.inr ⟨by rfl, rfl⟩)
       refine pU 9 22 (bA 20 1023) HT_ ?_ (hy := Or.inr ⟨by rfl, rfl⟩)
       refine pU 10 23 (bA 20 2047) HT_ ?_ (hy := Or.inr ⟨by rfl, rfl⟩)
       refine pU 11 24 (bA 20 4095) HT_ ?_ (hy := Or.inr ⟨by rfl, rfl⟩)
       refine pU 12 25 (bA 20 8191) HT_ ?_ (hy := Or.inr ⟨by rfl, rfl⟩)
       refine pU 13 26 (bA 20 16383) HT_ ?_ (hy := Or.inr ⟨by rfl, rfl⟩)
       refine pU 14 27 (bA 20 32767) HT_ ?_ (hy := Or.inr ⟨by rfl, rfl⟩)
       refine pU 15 28 (bA 20 65535) HT_ ?_ (hy := Or.inr ⟨by rfl, rfl⟩)
       refine pU 16 29 (bA 20 131071) HT_ ?_ (hy := Or.inr ⟨by rfl, rfl⟩)
       refine pU 17 30 (bA 20 262143) HT_ ?_ (hy := Or.inr ⟨by rfl, rfl⟩)
       refine pU 18 31 (bA 20 524287) HT_ ?_ (hy := Or.inr ⟨by rfl, rfl⟩)
       refine pU 19 32 (bA 20 1048575) HT_ ?_
       refine done_ (done_of HT_.out kR) ?_
       have hcz32_0 := vZ0 BK416; have hcz32_1 := vZ1 BK416; have hfz32_0 := kF BK416.out 0; have hfz32_1 := kF BK416.out 1
       try go_wp2_with (first | ((with_reducible refine gate_builtin (b := .append) (xs := #[.tmp 38, .tmp 40]) rfl ?_); (try (refine gate_guard (by rfl) ?_; dsimp only)); at_builtin; refine Kd.R_append kd_impl_Peg (w0 := w) w.heap.size rfl (.tmp 38) (.tmp 40) 26 41 (.agg #[(.int .i64 0), (.int .i64 0)]) 16 rfl Try.underlying26 info41 rfl (by decide) (by omega) (.slice Ao31 x3_2.length co31) x3_2 (⟨((rd_impl_Peg l0 x9_1).f0), ((rd_impl_Peg l0 x9_1).f1)⟩ : S_impl_Peg) [.int .i64 ((rd_impl_Peg l0 x9_1).f0), .int .i64 ((rd_impl_Peg l0 x9_1).f1)] (fun k_ => k_ ≠ gb416) (fun _ => False) rfl rfl ?aP (fun _ hk => hk.elim) ?aF ?aO ?aB ?aS ?aL ?_; (case aP => exact kd_impl_Peg_mkM _ _ _ (⟨((rd_impl_Peg l0 x9_1).f0), ((rd_impl_Peg l0 x9_1).f1)⟩ : S_impl_Peg)); (case aB => exact bE); (case aF => exact (fun k_ hk => Kd.freshB (g := gb416) (o := .cells #[.int .i64 ((rd_impl_Peg l0 x9_1).f0), .int .i64 ((rd_impl_Peg l0 x9_1).f1)] 41 (0, 0)) (gQ BK416) k_ hk)); (case aO => exact (by (with_reducible repeat (first | apply rA | apply rN | apply rD)); exact HO_3.out)); (case aS => exact (pZ bE)); (case aL => have := LMc29.out; omega); intro v427 w33 ho hb hg hat; rw [← Ny426.out] at ho; have n0_ := aM (blk_grown (g := gb416) (o := .cells #[.int .i64 ((rd_impl_Peg l0 x9_1).f0), .int .i64 ((rd_impl_Peg l0 x9_1).f1)] 41 (0, 0)) (gQ BK416) hg (Kd.R_away HO_3.out (fun _ hk => hk))); have n1_ := aM (hb); have n2_ := aM (ho); clear BK416; clear HB; clear HO_3; have BK416 := n0_; have HB := n1_; have HO428 := n2_; clear n0_ n1_ n2_; clear ho hb hg hat))
       go_roundg k2
       case measure => have := HK1.out; have := HK2.out; omega
       case rel => exact ⟨(y426), (wrap64 (x9_1 + 1)), eQ, H', ⟨by have := HK1.out; have := HK2.out; omega⟩, ⟨by (with_reducible repeat (first | apply rA | apply rN | apply rD)); exact Kd.R_mono HO428.out (fun _ hk => trivial)⟩, ⟨bE⟩⟩
   ·rw [if_neg c4] at H; have c4b0 := decide_eq_false c4; clear c4; obtain rfl := Option.some.inj H; go_wp2
    go_ret
    exact ⟨_, by first | rfl | (simp [errW_none, errW_some] <;> rfl) | (simp [*, errW_none, errW_some] <;> rfl), by (with_reducible repeat (first | apply rA | apply rN | apply rD)); exact HO_3.out, bQ⟩

end Go.Proofs.Ytoeclfihlhmnpaa.X
