-- thin
-- short
-- compact
import Derived.Test.YtklhakfmegbobaaXA
import Derived.Test.YtklhakfmegbobaaX0
import Derived.Test.YtklhakfmegbobaaX3
namespace Go.Proofs.Ytklhakfmegbobaa.X
open Go.RowKit Go.Proofs.Ytklhakfmegbobaa.XW Go.Proofs.YtklhakfmegbobaaW.PrintWords Go.Proofs.YtklhakfmegbobaaW.PrintLast Go.Proofs.YtklhakfmegbobaaW.PrintMore
attribute [local go_sem] max2_int min2_int max_two min_two max_three min_three max_four min_four   -- for this text's walks alone
set_option linter.unusedVariables false
set_option linter.unusedSimpArgs false

def spec_pgArea.l0 : Nat → List (S_impl_Peg) → Int → Int → Option (Int)
 | 0, _, _, _ => none
 | k + 1, x0, x3, x4 => if x4 < (x0.length : Int) then (if 0 < (x0.length : Int) then (if 0 ≤ (wrap64 (x4 - 1)) then (if (wrap64 (x4 - 1)) < (x0.length : Int) then (if 0 ≤ x4 then ((spec_pgTurn.f ((rd_impl_Peg x0 0).f0) ((rd_impl_Peg x0 0).f1) ((rd_impl_Peg x0 (wrap64 (x4 - 1))).f0) ((rd_impl_Peg x0 (wrap64 (x4 - 1))).f1) ((rd_impl_Peg x0 x4).f0) ((rd_impl_Peg x0 x4).f1)).bind fun t168 => (spec_pgArea.l0 k x0 (wrap64 (x3 + t168)) (wrap64 (x4 + 1)))) else (none)) else (none)) else (none)) else (none)) else (some x3)
def spec_pgArea.f (k : Nat) (l0 : List (S_impl_Peg)) : Option (Int) := spec_pgArea.l0 k l0 0 2
theorem spec_pgArea.mono_l : ∀ k, (∀ y0 y1 y2, LeO (spec_pgArea.l0 k y0 y1 y2) (spec_pgArea.l0 (k + 1) y0 y1 y2))
 | 0 => fun _ _ _ r h => by simp [spec_pgArea.l0] at h
 | k + 1 => by
  have ih0 := spec_pgArea.mono_l k
  ·intro y0 y1 y2
   unfold spec_pgArea.l0
   repeat' first
   | (with_reducible exact ih0 _ _ _)
   | (with_reducible exact LeO.refl _)
   | (with_reducible exact LeO.none _)
   | (with_reducible refine LeO.ite ?_ ?_)
   | (with_reducible refine LeO.bind ?_ (fun _ => ?_))
   | exact ih0 _ _ _
   | exact LeO.none _
   | refine LeO.ite ?_ ?_
   | refine LeO.bind ?_ (fun _ => ?_)
theorem spec_pgArea.mono : ∀ a0 k, LeO (spec_pgArea.f k a0) (spec_pgArea.f (k + 1) a0) := by
 intro a0 k
 have ih0 := spec_pgArea.mono_l k
 unfold spec_pgArea.f
 repeat' first | (with_reducible exact ih0 _ _ _) | (with_reducible exact LeO.refl _) | (with_reducible exact LeO.none _) | (with_reducible refine LeO.ite ?_ ?_) | (with_reducible refine LeO.bind ?_ (fun _ => ?_)) | exact ih0 _ _ _ | exact LeO.none _ | refine LeO.ite ?_ ?_ | refine LeO.bind ?_ (fun _ => ?_)
def spec_pgArea.T5 : Bool × List (List Nat × List Nat) := (true, [([], []), ([], []), ([1], [1]), ([2], [2]), ([], []), ([], []), ([5], [5]), ([4, 6], [4, 6]), ([7], [7]), ([], []), ([], []), ([9, 10], [9, 10]), ([11], [11]), ([3, 8, 12], [3, 8, 12]), ([0, 13], [0, 13]), ([14, 13, 0, 1, 2, 3, 4, 5, 6, 7, 8, 9, 10, 11, 12, 13, 14], [0, 14])])
def spec_pgArea.B5 : List Nat := [0, 0, 2, 6, 0, 0, 32, 112, 240, 0, 0, 1536, 3584, 8190, 16383, 32767]
theorem spec_pgArea.tab5 : rtab .any (opsOf Try.f56 5) = spec_pgArea.T5 := by kernel_rfl
theorem spec_pgArea.bits5 : waitsOk spec_pgArea.T5.2 spec_pgArea.B5 = true := by kernel_rfl
set_option maxHeartbeats 8000000 in
set_option maxRecDepth 100000 in
theorem spec_pgArea.calls (k : Nat) (A0 : Option Addr) (c0 : Nat) (l0 : List (S_impl_Peg)) (r : Int) (w : World) (hr0 : Kd.C kd_impl_Peg w A0 l0.length l0) (hc0 : l0.length ≤ c0) (h : spec_pgArea.f k l0 = some r) :
  Calls Try.prog 56 #[.slice A0 l0.length c0] w fun e w' => e = .returned (.int .i64 r) ∧ Below w.heap.size w w' := by
 have hu26 := Try.underlying26; have HR0 := aM hr0; have HC0 := aM hc0; clear hr0 hc0; have HB := aM (Below.refl w.heap.size w)
 unfold spec_pgArea.f at h; have H := h; clear h
 have H' := aM H; clear H
 go_enter Try.func56, Try.ntmps56
 go_wp2
 go_loopg [3, 4] k (fun kq v3 v4 w' => ∃ (x3_1 : Int) (x4_1 : Int), v3 = .int .i64 x3_1 ∧ v4 = .int .i64 x4_1 ∧ Aside0 (spec_pgArea.l0 kq l0 x3_1 x4_1 = some r) ∧ Aside0 (kq ≤ k) ∧ Aside0 (Below w.heap.size w w'))
 case atStart => exact ⟨(0), (2), eQ, eQ, H', ⟨Nat.le_refl _⟩, ⟨bQ⟩⟩
 case round =>
  clear H'; obtain ⟨x3_1, x4_1, rfl, rfl, HA, HK1, HB⟩ := hrel
  cases gk with
  | zero => exact absurd HA.out (by simp [spec_pgArea.l0])
  | succ k1 =>
   have H := HA.out; clear HA
   simp only [spec_pgArea.l0] at H
   by_cases c2 : x4_1 < (l0.length : Int)
   ·rw [if_pos c2] at H; have c2b0 := dE c2; clear c2; replace H := iN H; obtain ⟨c3, H⟩ := H; have c3b0 := dE c3; have c3b1 : decide (0 < l0.length) = true := dE (by omega)
    clear c3; obtain ⟨ji4, hji4⟩ : ∃ j_ : Int, (wrap64 (x4_1 - 1)) = j_ := ⟨_, rfl⟩
    (first | rw [hji4] at H | simp only [hji4] at H)
    have hji4w : (IntKind.i64.wrap (x4_1 - 1)) = ji4 := (i64_w _).trans hji4; replace H := iD H; obtain ⟨c5b0, H⟩ := H; replace H := iD H; obtain ⟨c6b0, H⟩ := H; replace H := iD H; obtain ⟨c7b0, H⟩ := H; replace H := bS H; obtain ⟨t168, A8, H⟩ := H; have H' := aM H; clear H
    try go_wp2
    replace HB := aM (pD HB.out); have p165 : 0 ≤ (0 : Int) := (by omega)
    have q165 : 0 < (l0.length : Int) := dT aQ; obtain ⟨ad165, e165, hx165_0, hx165_1⟩ := at_impl_Peg HR0.out 0 p165 q165; have hw165_1 := hx165_1
    (try rw [show ((0 : Int)).toNat = 0 from rfl] at hw165_1)
    (try rw [show 0 * 2 = 0 from rfl] at hw165_1)
    (try rw [Addr.add_zero'] at hw165_1)
    have hw165_0 := hx165_0
    (try rw [show ((0 : Int)).toNat = 0 from rfl] at hw165_0)
    (try rw [show 0 * 2 = 0 from rfl] at hw165_0)
    (try rw [Addr.add_zero'] at hw165_0)
    cases e165
    have qi165 : (0 < l0.length) = True := eq_true (by omega)
    (try rw [show ((0 : Int)).toNat = 0 from rfl] at hx165_0)
    (try rw [show 0 * 2 = 0 from rfl] at hx165_0)
    (try rw [Addr.add_zero'] at hx165_0)
    (try rw [show ((0 : Int)).toNat = 0 from rfl] at hx165_1)
    (try rw [show 0 * 2 = 0 from rfl] at hx165_1)
    (try rw [Addr.add_zero'] at hx165_1)
    replace hx165_0 := hC HB hx165_0; replace hx165_1 := hC HB hx165_1; replace p165 := eq_true p165; replace q165 := eq_true q165; have p166 : 0 ≤ ((ji4) : Int) := dT aQ; have q166 : (ji4) < (l0.length : Int) := dT aQ; obtain ⟨ad166, e166, hx166_0, hx166_1⟩ := at_impl_Peg HR0.out (ji4) p166 q166; have hw166_1 := hx166_1; have hw166_0 := hx166_0; obtain rfl : ad165 = ad166 := (by injection e166)
    replace hx166_0 := hC HB hx166_0; replace hx166_1 := hC HB hx166_1; replace p166 := eq_true p166; replace q166 := eq_true q166; have p167 : 0 ≤ (x4_1 : Int) := dT aQ; have q167 : x4_1 < (l0.length : Int) := dT aQ; obtain ⟨ad167, e167, hx167_0, hx167_1⟩ := at_impl_Peg HR0.out x4_1 p167 q167; have hw167_1 := hx167_1; have hw167_0 := hx167_0; obtain rfl : ad165 = ad167 := (by injection e167)
    replace hx167_0 := hC HB hx167_0; replace hx167_1 := hC HB hx167_1; replace p167 := eq_true p167; replace q167 := eq_true q167
    refine start_ (n := 16) (S := fun w' => w'.cell? ad165 = some (.int .i64 ((rd_impl_Peg l0 0).f0)) ∧ w'.cell? ⟨ad165.block, ad165.off + 1, none⟩ = some (.int .i64 ((rd_impl_Peg l0 0).f1)) ∧ w'.cell? (ad165.add (((ji4)).toNat * 2)) = some (.int .i64 ((rd_impl_Peg l0 (ji4)).f0)) ∧ w'.cell? ⟨(ad165.add (((ji4)).toNat * 2)).block, (ad165.add (((ji4)).toNat * 2)).off + 1, none⟩ = some (.int .i64 ((rd_impl_Peg l0 (ji4)).f1)) ∧ w'.cell? (ad165.add ((x4_1).toNat * 2)) = some (.int .i64 ((rd_impl_Peg l0 x4_1).f0)) ∧ w'.cell? ⟨(ad165.add ((x4_1).toNat * 2)).block, (ad165.add ((x4_1).toNat * 2)).off + 1, none⟩ = some (.int .i64 ((rd_impl_Peg l0 x4_1).f1))) (ds := []) (bA 16 0) kR rfl kR ⟨(hC HB hw165_0 :), (hC HB hw165_1 :), (hC HB hw166_0 :), (hC HB hw166_1 :), (hC HB hw167_0 :), (hC HB hw167_1 :)⟩ (fun hHeld => ?_); refine with_tabW spec_pgArea.tab5 spec_pgArea.bits5 (fun HT_ HW_ => ?_)
    generalize wr.drew = w9 at HB hx165_0 hx165_1 hx166_0 hx166_1 hx167_0 hx167_1 hHeld ⊢
    refine pU 0 11 (bA 16 1) HT_ ?_; refine pU 1 12 (bA 16 3) HT_ ?_; refine pU 2 13 (bA 16 7) HT_ ?_; refine pU 4 15 (bA 16 23) HT_ ?_; refine pU 5 16 (bA 16 55) HT_ ?_; refine pU 6 17 (bA 16 119) HT_ ?_; refine pU 7 18 (bA 16 247) HT_ ?_; refine pU 9 20 (bA 16 759) HT_ ?_; refine pU 10 21 (bA 16 1783) HT_ ?_; refine pU 11 22 (bA 16 3831) HT_ ?_
    refine tU 3 14 (bA 16 3839) HT_ HW_ hHeld ?_ (hy := Or.inl ⟨by rfl, by rintro w' ⟨s0, s1, s2, s3, s4, s5⟩; go_simp; with_reducible rfl⟩)
    refine tU 8 19 (bA 16 4095) HT_ HW_ hHeld ?_ (hy := Or.inl ⟨by rfl, by rintro w' ⟨s0, s1, s2, s3, s4, s5⟩; go_simp; with_reducible rfl⟩)
    refine tU 12 23 (bA 16 8191) HT_ HW_ hHeld ?_ (hy := Or.inl ⟨by rfl, by rintro w' ⟨s0, s1, s2, s3, s4, s5⟩; go_simp; with_reducible rfl⟩)
    refine oU 13 24 (bA 16 16383) HT_ (fun K hK => ?_)
    refine goes_ Try.func106 kR rfl #[.agg #[.int .i64 ((rd_impl_Peg l0 0).f0), .int .i64 ((rd_impl_Peg l0 0).f1)], .agg #[.int .i64 ((rd_impl_Peg l0 (ji4)).f0), .int .i64 ((rd_impl_Peg l0 (ji4)).f1)], .agg #[.int .i64 ((rd_impl_Peg l0 x4_1).f0), .int .i64 ((rd_impl_Peg l0 x4_1).f1)]] (by rfl) rfl rfl (by (try simp only [mA, mC, mN]); first | done | (simp only [hji4]; rfl) | rfl | (simp only [lD, lT]; rfl)) ?_
    with_reducible refine (spec_pgTurn.calls ((rd_impl_Peg l0 0).f0) ((rd_impl_Peg l0 0).f1) ((rd_impl_Peg l0 (ji4)).f0) ((rd_impl_Peg l0 (ji4)).f1) ((rd_impl_Peg l0 x4_1).f0) ((rd_impl_Peg l0 x4_1).f1) t168 _ A8.out).mono ?_
    rintro e w10 ⟨rfl, hb⟩; refine ⟨_, rfl, ?_⟩; replace HB := tB HB hb; (try clear hb); (try clear hb2); (try clear hk); (try clear hi)
    refine hK.out _ _ ⟨(hC HB hw165_0 :), (hC HB hw165_1 :), (hC HB hw166_0 :), (hC HB hw166_1 :), (hC HB hw167_0 :), (hC HB hw167_1 :)⟩ (fun hHeld => ?_)
    clear hK K
    refine nU ?_
    refine pU 14 25 (bA 16 32767) HT_ ?_; refine pU 15 3 (bA 16 65535) HT_ ?_
    refine done_ (done_of HT_.out kR) ?_
    try go_wp2
    go_roundg k1
    case measure => have := HK1.out; omega
    case rel => exact ⟨(wrap64 (x3_1 + t168)), (wrap64 (x4_1 + 1)), eQ, eQ, H', ⟨by have := HK1.out; omega⟩, ⟨bQ⟩⟩
   ·rw [if_neg c2] at H; have c2b0 := decide_eq_false c2; clear c2; obtain rfl := Option.some.inj H; go_wp2
    go_ret
    exact ⟨wQ, bQ⟩

def spec_pgBack.l0 : Nat → List (S_impl_Peg) → List (S_impl_Peg) → Int → Option ((List (S_impl_Peg)))
 | 0, _, _, _ => none
 | k + 1, x0, x3, x4 => if x4 > 0 then (if 0 ≤ x4 then (if x4 < (x0.length : Int) then (if x3.length < 8796093022208 then (spec_pgBack.l0 k x0 (x3 ++ [(⟨(rd_impl_Peg x0 x4).f0, (rd_impl_Peg x0 x4).f1⟩ : S_impl_Peg)]) (wrap64 (x4 - 1))) else (none)) else (none)) else (none)) else (some x3)
def spec_pgBack.f (k : Nat) (l0 : List (S_impl_Peg)) : Option ((List (S_impl_Peg))) := if 0 < (l0.length : Int) then (spec_pgBack.l0 k l0 (([(⟨(rd_impl_Peg l0 0).f0, (rd_impl_Peg l0 0).f1⟩ : S_impl_Peg)] : List (S_impl_Peg))) (wrap64 ((l0.length : Int) - 1))) else (none)
theorem spec_pgBack.mono_l : ∀ k, (∀ y0 y1 y2, LeO (spec_pgBack.l0 k y0 y1 y2) (spec_pgBack.l0 (k + 1) y0 y1 y2))
 | 0 => fun _ _ _ r h => by simp [spec_pgBack.l0] at h
 | k + 1 => by
  have ih0 := spec_pgBack.mono_l k
  ·intro y0 y1 y2
   unfold spec_pgBack.l0
   repeat' first
   | (with_reducible exact ih0 _ _ _)
   | (with_reducible exact LeO.refl _)
   | (with_reducible exact LeO.none _)
   | (with_reducible refine LeO.ite ?_ ?_)
   | (with_reducible refine LeO.bind ?_ (fun _ => ?_))
   | exact ih0 _ _ _
   | exact LeO.none _
   | refine LeO.ite ?_ ?_
   | refine LeO.bind ?_ (fun _ => ?_)
theorem spec_pgBack.mono : ∀ a0 k, LeO (spec_pgBack.f k a0) (spec_pgBack.f (k + 1) a0) := by
 intro a0 k
 have ih0 := spec_pgBack.mono_l k
 unfold spec_pgBack.f
 repeat' first | (with_reducible exact ih0 _ _ _) | (with_reducible exact LeO.refl _) | (with_reducible exact LeO.none _) | (with_reducible refine LeO.ite ?_ ?_) | (with_reducible refine LeO.bind ?_ (fun _ => ?_)) | exact ih0 _ _ _ | exact LeO.none _ | refine LeO.ite ?_ ?_ | refine LeO.bind ?_ (fun _ => ?_)
set_option maxHeartbeats 8000000 in
set_option maxRecDepth 100000 in
theorem spec_pgBack.calls (k : Nat) (A0 : Option Addr) (c0 : Nat) (l0 : List (S_impl_Peg)) (r : List (S_impl_Peg)) (w : World) (hr0 : Kd.C kd_impl_Peg w A0 l0.length l0) (hc0 : l0.length ≤ c0) (h : spec_pgBack.f k l0 = some r) :
  Calls Try.prog 64 #[.slice A0 l0.length c0] w fun e w' => ∃ v0_ : Value, e = .returned (v0_) ∧ Kd.R kd_impl_Peg 26 w' w.heap.size (fun _ => True) v0_ r ∧ Below w.heap.size w w' := by
 have hu26 := Try.underlying26; have HR0 := aM hr0; have HC0 := aM hc0; clear hr0 hc0; have HB := aM (Below.refl w.heap.size w)
 unfold spec_pgBack.f at h; have H := h; clear h
 replace H := iN H; obtain ⟨c2, H⟩ := H; have c2b0 := dE c2; have c2b1 : decide (0 < l0.length) = true := dE (by omega)
 clear c2; obtain ⟨y170, hy170⟩ : ∃ y_ : List (S_impl_Peg), y_ = (([(⟨(rd_impl_Peg l0 0).f0, (rd_impl_Peg l0 0).f1⟩ : S_impl_Peg)] : List (S_impl_Peg))) := ⟨_, rfl⟩; rw [← hy170] at H; have Ny170 := aM hy170; clear hy170; have H' := aM H; clear H; have p169 : 0 ≤ (0 : Int) := (by omega)
 have q169 : 0 < (l0.length : Int) := dT aQ; obtain ⟨ad169, e169, hx169_0, hx169_1⟩ := at_impl_Peg HR0.out 0 p169 q169
 cases e169
 have qi169 : (0 < l0.length) = True := eq_true (by omega)
 (try rw [show ((0 : Int)).toNat = 0 from rfl] at hx169_0)
 (try rw [show 0 * 2 = 0 from rfl] at hx169_0)
 (try rw [Addr.add_zero'] at hx169_0)
 (try rw [show ((0 : Int)).toNat = 0 from rfl] at hx169_1)
 (try rw [show 0 * 2 = 0 from rfl] at hx169_1)
 (try rw [Addr.add_zero'] at hx169_1)
 replace p169 := eq_true p169; replace q169 := eq_true q169
 go_enter Try.func64, Try.ntmps64
 go_wp2_with (first | ((with_reducible refine gate_dst (N := 8) rfl ?_); refine Kd.R_lit kd_impl_Peg _ 26 ?hg (N := 8) ?hd (xs := ([(⟨(rd_impl_Peg l0 0).f0, (rd_impl_Peg l0 0).f1⟩ : S_impl_Peg)] : List (S_impl_Peg))) (inner := [.int .i64 ((rd_impl_Peg l0 0).f0), .int .i64 ((rd_impl_Peg l0 0).f1)]) (ok := fun _ => True) (okp := fun _ => True) ?hr ?hp (fun _ hk => hk) trivial (Below.refl _ _) (Nat.le_refl _) (by simp) ?_; (case hd => rfl); (case hg => rfl); (case hr => first | (go_simp; done) | (go_simp; rfl)); (case hp => exact (Reps.c2 (show Kd.M kd_impl_Peg _ _ _ (⟨(rd_impl_Peg l0 0).f0, (rd_impl_Peg l0 0).f1⟩ : S_impl_Peg) [.int .i64 ((rd_impl_Peg l0 0).f0), .int .i64 ((rd_impl_Peg l0 0).f1)] from (kd_impl_Peg_mkM _ _ _ (⟨(rd_impl_Peg l0 0).f0, (rd_impl_Peg l0 0).f1⟩ : S_impl_Peg) )) (Reps.none _ _))); intro v171 w3 ho4 hb hg_ hnew_; clear hg_ hnew_; (first | rw [← Ny170.out] at ho4 | (simp only [Int.reduceToNat] at ho4; rw [← Ny170.out] at ho4)); have HO172 := aM (Kd.R_lower ho4 (pZ bQ)); replace HB := tB HB hb; clear hb ho4))
 go_loopg [3, 4] k (fun kq v3 v4 w' => ∃ (x3_1 : List (S_impl_Peg)) (x4_1 : Int), v4 = .int .i64 x4_1 ∧ Aside0 (spec_pgBack.l0 kq l0 x3_1 x4_1 = some r) ∧ Aside0 (kq ≤ k) ∧ Aside0 (Kd.R kd_impl_Peg 26 w' w.heap.size (fun _ => True) v3 x3_1) ∧ Aside0 (Below w.heap.size w w'))
 case atStart => exact ⟨(y170), (wrap64 ((l0.length : Int) - 1)), eQ, H', ⟨Nat.le_refl _⟩, ⟨by (with_reducible repeat (first | apply rA | apply rN | apply rD)); exact HO172.out⟩, ⟨bQ⟩⟩
 case round =>
  clear H'; (try clear c2); (try clear c2b0); (try clear c2b1); (try clear hx169_0); (try clear hx169_1); (try clear p169); (try clear q169); obtain ⟨x3_1, x4_1, rfl, HA, HK1, HO_3, HB⟩ := hrel
  cases gk with
  | zero => exact absurd HA.out (by simp [spec_pgBack.l0])
  | succ k1 =>
   have H := HA.out; clear HA
   simp only [spec_pgBack.l0] at H
   by_cases c5 : x4_1 > 0
   ·rw [if_pos c5] at H; have c5b0 := dE c5; clear c5; replace H := iD H; obtain ⟨c6b0, H⟩ := H; replace H := iD H; obtain ⟨c7b0, H⟩ := H; replace H := iN H; obtain ⟨c8, H⟩ := H; have LMc8 := aM c8; clear c8; obtain ⟨y174, hy174⟩ : ∃ y_ : List (S_impl_Peg), y_ = (x3_1 ++ [(⟨(rd_impl_Peg l0 x4_1).f0, (rd_impl_Peg l0 x4_1).f1⟩ : S_impl_Peg)]) := ⟨_, rfl⟩; rw [← hy174] at H; have Ny174 := aM hy174; clear hy174; have H' := aM H; clear H; have p173 : 0 ≤ (x4_1 : Int) := dT aQ; have q173 : x4_1 < (l0.length : Int) := dT aQ; obtain ⟨ad173, e173, hx173_0, hx173_1⟩ := at_impl_Peg HR0.out x4_1 p173 q173; obtain rfl : ad169 = ad173 := (by injection e173)
    replace hx173_0 := hC HB hx173_0; replace hx173_1 := hC HB hx173_1; replace p173 := eq_true p173; replace q173 := eq_true q173
    go_wp2_with (first | ((with_reducible refine gate_builtin (b := .append) (xs := #[.tmp 16, .tmp 21]) rfl ?_); at_builtin; refine Kd.R_append kd_impl_Peg (w0 := w) w.heap.size rfl (.tmp 16) (.tmp 21) 29 26 (.agg #[(.int .i64 0), (.int .i64 0)]) 16 rfl Try.underlying29 info26 rfl (by decide) (by omega) u3 x3_1 (⟨(rd_impl_Peg l0 x4_1).f0, (rd_impl_Peg l0 x4_1).f1⟩ : S_impl_Peg) [.int .i64 ((rd_impl_Peg l0 x4_1).f0), .int .i64 ((rd_impl_Peg l0 x4_1).f1)] (fun _ => True) (fun _ => False) rfl rfl ?aP (fun _ hk => hk.elim) ?aF ?aO ?aB ?aS ?aL ?_; (case aP => exact kd_impl_Peg_mkM _ _ _ (⟨(rd_impl_Peg l0 x4_1).f0, (rd_impl_Peg l0 x4_1).f1⟩ : S_impl_Peg)); (case aB => exact bQ); (case aF => exact (fun _ _ => trivial)); (case aO => exact (by (with_reducible repeat (first | apply rA | apply rN | apply rD)); exact HO_3.out)); (case aS => exact (pZ bQ)); (case aL => have := LMc8.out; omega); intro v175 w9 ho hb hg hat; rw [← Ny174.out] at ho; have n0_ := aM (hb); have n1_ := aM (ho); clear HB; clear HO_3; have HB := n0_; have HO176 := n1_; clear n0_ n1_; clear ho hb hg hat))
    go_roundg k1
    case measure => have := HK1.out; omega
    case rel => exact ⟨(y174), (wrap64 (x4_1 - 1)), eQ, H', ⟨by have := HK1.out; omega⟩, ⟨by (with_reducible repeat (first | apply rA | apply rN | apply rD)); exact HO176.out⟩, ⟨bQ⟩⟩
   ·rw [if_neg c5] at H; have c5b0 := decide_eq_false c5; clear c5; obtain rfl := Option.some.inj H; go_wp2
    go_ret
    exact ⟨_, by first | rfl | (simp [errW_none, errW_some] <;> rfl) | (simp [*, errW_none, errW_some] <;> rfl), by (with_reducible repeat (first | apply rA | apply rN | apply rD)); exact HO_3.out, bQ⟩
def spec_pgLess.f (a0_0 : Int) (a0_1 : Int) (a1_0 : Int) (a1_1 : Int) : Option (Bool) := if a0_0 < a1_0 then (some true) else (if a0_0 = a1_0 then (some (decide (a0_1 < a1_1))) else (some false))
set_option maxHeartbeats 8000000 in
set_option maxRecDepth 100000 in
theorem spec_pgLess.calls (a0_0 : Int) (a0_1 : Int) (a1_0 : Int) (a1_1 : Int) (r : Bool) (w : World) (h : spec_pgLess.f a0_0 a0_1 a1_0 a1_1 = some r) :
  Calls Try.prog 124 #[.agg #[.int .i64 a0_0, .int .i64 a0_1], .agg #[.int .i64 a1_0, .int .i64 a1_1]] w fun e w' => e = .returned (.bool r) ∧ Below w.heap.size w w' := by
 have hu26 := Try.underlying26; have HB := aM (Below.refl w.heap.size w)
 unfold spec_pgLess.f at h; have H := h; clear h
 by_cases c3 : a0_0 < a1_0
 ·rw [if_pos c3] at H; have c3b0 := dE c3; clear c3; obtain rfl := Option.some.inj H
  go_enter Try.func124, Try.ntmps124
  go_wp2_with (first | ((with_reducible refine gate_dst (N := 2) rfl ?_); refine bV 2 (cs := #[.int .i64 a0_0, .int .i64 a0_1]) (t := 26) rfl rfl (by first | (go_simp; done) | (go_simp; rfl)) ?_; intro gb177 hg w4 hbox hb; have BK177 := hbox; have GW177 := gZ HB hg; have GE177 := gZ HB hg; replace HB := tB HB hb; clear hb hbox hg) | ((with_reducible refine gate_dst (N := 3) rfl ?_); refine bV 3 (cs := #[.int .i64 a1_0, .int .i64 a1_1]) (t := 26) rfl rfl (by first | (go_simp; done) | (go_simp; rfl)) ?_; intro gb178 hg w5 hbox hb; have BK178 := hbox; have GW178 := gZ HB hg; have GE178 := gZ HB hg; have NB177_178 := nG BK177 hg; have NB178_177 := nH BK177 hg; replace BK177 := bB BK177 hb; replace HB := tB HB hb; clear hb hbox hg; have hnb6 := NB177_178.out; have hnc6 := NB178_177.out; have hcz7_0 := vZ0 BK177; have hcz7_1 := vZ1 BK177; have hfz7_0 := kF BK177.out 0; have hfz7_1 := kF BK177.out 1; have hcz8_0 := vZ0 BK178; have hcz8_1 := vZ1 BK178; have hfz8_0 := kF BK178.out 0; have hfz8_1 := kF BK178.out 1))
  go_ret
  exact ⟨wQ, bE⟩
 ·rw [if_neg c3] at H; have c3b0 := decide_eq_false c3; clear c3
  by_cases c9 : a0_0 = a1_0
  ·rw [if_pos c9] at H; have c9b0 : (a0_0 == a1_0) = true := beq_iff_eq.mpr c9; have c9b1 : (a0_0 != a1_0) = false := bne_eq_false_iff_eq.mpr c9; clear c9; obtain rfl := Option.some.inj H
   go_enter Try.func124, Try.ntmps124
   go_wp2_with (first | ((with_reducible refine gate_dst (N := 2) rfl ?_); refine bV 2 (cs := #[.int .i64 a0_0, .int .i64 a0_1]) (t := 26) rfl rfl (by first | (go_simp; done) | (go_simp; rfl)) ?_; intro gb177 hg w10 hbox hb; have BK177 := hbox; have GW177 := gZ HB hg; have GE177 := gZ HB hg; replace HB := tB HB hb; clear hb hbox hg) | ((with_reducible refine gate_dst (N := 3) rfl ?_); refine bV 3 (cs := #[.int .i64 a1_0, .int .i64 a1_1]) (t := 26) rfl rfl (by first | (go_simp; done) | (go_simp; rfl)) ?_; intro gb178 hg w11 hbox hb; have BK178 := hbox; have GW178 := gZ HB hg; have GE178 := gZ HB hg; have NB177_178 := nG BK177 hg; have NB178_177 := nH BK177 hg; replace BK177 := bB BK177 hb; replace HB := tB HB hb; clear hb hbox hg; have hnb12 := NB177_178.out; have hnc12 := NB178_177.out; have hcz13_0 := vZ0 BK177; have hcz13_1 := vZ1 BK177; have hfz13_0 := kF BK177.out 0; have hfz13_1 := kF BK177.out 1; have hcz14_0 := vZ0 BK178; have hcz14_1 := vZ1 BK178; have hfz14_0 := kF BK178.out 0; have hfz14_1 := kF BK178.out 1))
   go_ret
   exact ⟨wQ, bE⟩
  ·rw [if_neg c9] at H; have c9b0 : (a0_0 == a1_0) = false := beq_eq_false_iff_ne.mpr c9; have c9b1 : (a0_0 != a1_0) = true := bne_iff_ne.mpr c9; obtain rfl := Option.some.inj H
   go_enter Try.func124, Try.ntmps124
   go_wp2_with (first | ((with_reducible refine gate_dst (N := 2) rfl ?_); refine bV 2 (cs := #[.int .i64 a0_0, .int .i64 a0_1]) (t := 26) rfl rfl (by first | (go_simp; done) | (go_simp; rfl)) ?_; intro gb177 hg w15 hbox hb; have BK177 := hbox; have GW177 := gZ HB hg; have GE177 := gZ HB hg; replace HB := tB HB hb; clear hb hbox hg) | ((with_reducible refine gate_dst (N := 3) rfl ?_); refine bV 3 (cs := #[.int .i64 a1_0, .int .i64 a1_1]) (t := 26) rfl rfl (by first | (go_simp; done) | (go_simp; rfl)) ?_; intro gb178 hg w16 hbox hb; have BK178 := hbox; have GW178 := gZ HB hg; have GE178 := gZ HB hg; have NB177_178 := nG BK177 hg; have NB178_177 := nH BK177 hg; replace BK177 := bB BK177 hb; replace HB := tB HB hb; clear hb hbox hg; have hnb17 := NB177_178.out; have hnc17 := NB178_177.out; have hcz18_0 := vZ0 BK177; have hcz18_1 := vZ1 BK177; have hfz18_0 := kF BK177.out 0; have hfz18_1 := kF BK177.out 1; have hcz19_0 := vZ0 BK178; have hcz19_1 := vZ1 BK178; have hfz19_0 := kF BK178.out 0; have hfz19_1 := kF BK178.out 1))
   go_ret
   exact ⟨wQ, bE⟩

end Go.Proofs.Ytklhakfmegbobaa.X
