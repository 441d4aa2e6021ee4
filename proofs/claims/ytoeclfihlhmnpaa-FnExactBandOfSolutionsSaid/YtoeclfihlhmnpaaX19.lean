-- thin
-- short
-- compact
import Derived.Test.YtoeclfihlhmnpaaXA
import Derived.Test.YtoeclfihlhmnpaaX0
import Derived.Test.YtoeclfihlhmnpaaXW4
namespace Go.Proofs.Ytoeclfihlhmnpaa.X
open Go.RowKit Go.Proofs.Ytoeclfihlhmnpaa.XW Go.Proofs.YtoeclfihlhmnpaaW.PrintWords Go.Proofs.YtoeclfihlhmnpaaW.PrintLast Go.Proofs.YtoeclfihlhmnpaaW.PrintMore
attribute [local go_sem] max2_int min2_int max_two min_two max_three min_three max_four min_four   -- for this text's walks alone
set_option linter.unusedVariables false
set_option linter.unusedSimpArgs false

def slices_Reverse_impl_Peg.l0 : Nat → List (S_impl_Peg) → Int → Int → Option ((List (S_impl_Peg)))
 | 0, _, _, _ => none
 | k + 1, x0, x2, x3 => if x2 < x3 then (if 0 ≤ x3 then (if x3 < (x0.length : Int) then (if 0 ≤ x2 then (if x2 < (x0.length : Int) then (slices_Reverse_impl_Peg.l0 k ((x0.set (x2 : Int).toNat (⟨(rd_impl_Peg x0 x3).f0, (rd_impl_Peg x0 x3).f1⟩ : S_impl_Peg)).set (x3 : Int).toNat (⟨(rd_impl_Peg x0 x2).f0, (rd_impl_Peg x0 x2).f1⟩ : S_impl_Peg)) (wrap64 (x2 + 1)) (wrap64 (x3 - 1))) else (none)) else (none)) else (none)) else (none)) else (some x0)
def slices_Reverse_impl_Peg.f (k : Nat) (l0 : List (S_impl_Peg)) : Option ((List (S_impl_Peg))) := slices_Reverse_impl_Peg.l0 k l0 0 (wrap64 ((l0.length : Int) - 1))
theorem slices_Reverse_impl_Peg.mono_l : ∀ k, (∀ y0 y1 y2, LeO (slices_Reverse_impl_Peg.l0 k y0 y1 y2) (slices_Reverse_impl_Peg.l0 (k + 1) y0 y1 y2))
 | 0 => fun _ _ _ r h => by simp [slices_Reverse_impl_Peg.l0] at h
 | k + 1 => by
  have ih0 := slices_Reverse_impl_Peg.mono_l k
  ·intro y0 y1 y2
   unfold slices_Reverse_impl_Peg.l0
   repeat' first
   | (with_reducible exact ih0 _ _ _)
   | (with_reducible exact LeO.refl _)
   | (with_reducible exact LeO.none _)
   | (with_reducible refine LeO.ite ?_ ?_)
   | (with_reducible refine LeO.bind ?_ (fun _ => ?_))
   | exact ih0 _ _ _
   | exact LeO.none _
   | refine LeO.ite ?_ ?_
   | refine LeO.bind ?_ (fun _ => ?_)
theorem slices_Reverse_impl_Peg.mono : ∀ a0 k, LeO (slices_Reverse_impl_Peg.f k a0) (slices_Reverse_impl_Peg.f (k + 1) a0) := by
 intro a0 k
 have ih0 := slices_Reverse_impl_Peg.mono_l k
 unfold slices_Reverse_impl_Peg.f
 repeat' first | (with_reducible exact ih0 _ _ _) | (with_reducible exact LeO.refl _) | (with_reducible exact LeO.none _) | (with_reducible refine LeO.ite ?_ ?_) | (with_reducible refine LeO.bind ?_ (fun _ => ?_)) | exact ih0 _ _ _ | exact LeO.none _ | refine LeO.ite ?_ ?_ | refine LeO.bind ?_ (fun _ => ?_)
def slices_Reverse_impl_Peg.T3 : Bool × List (List Nat × List Nat) := (true, [([], []), ([], []), ([], []), ([], []), ([], []), ([], []), ([4, 5], [4, 5]), ([6], [6]), ([], []), ([], []), ([8, 9], [8, 9]), ([10], [10]), ([0, 1, 0, 1, 4, 5, 6, 7, 11], [0, 1]), ([12, 7, 0, 1, 4, 5, 6, 7, 11], [7, 12]), ([2, 3, 0, 1, 2, 3, 4, 5, 6, 7, 8, 9, 10, 11, 12, 13], [2, 3]), ([14, 11, 13, 0, 1, 2, 3, 4, 5, 6, 7, 8, 9, 10, 11, 12, 13], [11, 14])])
def slices_Reverse_impl_Peg.B3 : List Nat := [0, 0, 0, 0, 0, 0, 48, 112, 0, 0, 768, 1792, 4083, 8179, 16383, 32767]
theorem slices_Reverse_impl_Peg.tab3 : rtab .any (opsOf Try.f84 3) = slices_Reverse_impl_Peg.T3 := by kernel_rfl
theorem slices_Reverse_impl_Peg.bits3 : waitsOk slices_Reverse_impl_Peg.T3.2 slices_Reverse_impl_Peg.B3 = true := by kernel_rfl
set_option maxHeartbeats 8000000 in
set_option maxRecDepth 100000 in
theorem slices_Reverse_impl_Peg.calls (k : Nat) (P0_ : Nat → Prop) (u9000_ : Value) (l0 : List (S_impl_Peg)) (r : List (S_impl_Peg)) (w0 w : World) (hB : Below w0.heap.size w0 w) (ho0 : Kd.R kd_impl_Peg 41 w w0.heap.size P0_ u9000_ l0) (h : slices_Reverse_impl_Peg.f k l0 = some r) :
  Calls Try.prog 84 #[u9000_] w fun e w' => e = .returned (.tuple #[]) ∧ Kd.R kd_impl_Peg 41 w' w0.heap.size (fun k_ => (P0_ k_ ∨ w.heap.size ≤ k_)) u9000_ r ∧ Below w0.heap.size w0 w' ∧ Kept w w' (fun k_ => P0_ k_) := by
 have hu41 := Try.underlying41; have HO0 := aM (show Kd.R kd_impl_Peg 41 w w0.heap.size (fun k_ => (P0_ k_ ∨ w.heap.size ≤ k_)) u9000_ l0 from Kd.R_mono ho0 (fun k_ hk => (.inl hk))); have HK := aM (Kept.refl w (fun k_ => P0_ k_)); have HW0 := aM hB.size; have HB := aM hB; clear hB
 unfold slices_Reverse_impl_Peg.f at h; have H := h; clear h
 have H' := aM H; clear H; obtain ⟨Ao2, co2, eo2⟩ := Kd.R_slice HO0.out; subst eo2
 go_enter Try.func84, Try.ntmps84
 go_wp2
 go_loopg [2, 3] k (fun kq v2 v3 w' => ∃ (x0_1 : List (S_impl_Peg)) (x2_1 : Int) (x3_1 : Int), v2 = .int .i64 x2_1 ∧ v3 = .int .i64 x3_1 ∧ Aside0 (slices_Reverse_impl_Peg.l0 kq x0_1 x2_1 x3_1 = some r) ∧ Aside0 (kq ≤ k) ∧ Aside0 (Kd.R kd_impl_Peg 41 w' w0.heap.size (fun k_ => (P0_ k_ ∨ w.heap.size ≤ k_)) (.slice Ao2 l0.length co2) x0_1) ∧ Aside0 (Kept w w' (fun k_ => P0_ k_)) ∧ Aside0 (Below w0.heap.size w0 w'))
 case atStart => exact ⟨(l0), (0), (wrap64 ((l0.length : Int) - 1)), eQ, eQ, H', ⟨Nat.le_refl _⟩, ⟨by (with_reducible repeat (first | apply rA | apply rN | apply rD)); exact HO0.out⟩, ⟨by repeat (first | (with_reducible first | exact HK.out | apply Kept.alloc | apply Kept.drewN | apply Kept.drew) | exact HK.out)⟩, ⟨bQ⟩⟩
 case round =>
  clear H'; obtain ⟨x0_1, x2_1, x3_1, rfl, rfl, HA, HK1, HO_0, HK, HB⟩ := hrel; have hl0_1 := (rR HO_0.out).1; rw [hl0_1] at HO_0
  (try simp only [hl0_1])
  cases gk with
  | zero => exact absurd HA.out (by simp [slices_Reverse_impl_Peg.l0])
  | succ k1 =>
   have H := HA.out; clear HA
   simp only [slices_Reverse_impl_Peg.l0] at H
   by_cases c3 : x2_1 < x3_1
   ·rw [if_pos c3] at H; have c3b0 := dE c3; clear c3; replace H := iD H; obtain ⟨c4b0, H⟩ := H; replace H := iD H; obtain ⟨c5b0, H⟩ := H; replace H := iD H; obtain ⟨c6b0, H⟩ := H; replace H := iD H; obtain ⟨c7b0, H⟩ := H; obtain ⟨y431, hy431⟩ : ∃ y_ : List (S_impl_Peg), y_ = (x0_1.set (x2_1 : Int).toNat (⟨(rd_impl_Peg x0_1 x3_1).f0, (rd_impl_Peg x0_1 x3_1).f1⟩ : S_impl_Peg)) := ⟨_, rfl⟩; rw [← hy431] at H; have Ny431 := aM hy431; clear hy431; obtain ⟨y432, hy432⟩ : ∃ y_ : List (S_impl_Peg), y_ = (y431.set (x3_1 : Int).toNat (⟨(rd_impl_Peg x0_1 x2_1).f0, (rd_impl_Peg x0_1 x2_1).f1⟩ : S_impl_Peg)) := ⟨_, rfl⟩; rw [← hy432] at H; have Ny432 := aM hy432; clear hy432; have H' := aM H; clear H
    try go_wp2
    replace HO_0 := aM (rD HO_0.out); replace HK := aM (Kept.drew HK.out); replace HB := aM (pD HB.out); have p429 : 0 ≤ (x3_1 : Int) := dT aQ; have q429 : x3_1 < (x0_1.length : Int) := dT aQ; obtain ⟨ad429, e429, hx429_0, hx429_1⟩ := at_impl_Peg (rR HO_0.out).2.2 x3_1 p429 q429
    cases e429
    replace p429 := eq_true p429; replace q429 := eq_true q429; have p430 : 0 ≤ (x2_1 : Int) := dT aQ; have q430 : x2_1 < (x0_1.length : Int) := dT aQ; obtain ⟨ad430, e430, hx430_0, hx430_1⟩ := at_impl_Peg (rR HO_0.out).2.2 x2_1 p430 q430; obtain rfl : ad429 = ad430 := (by injection e430)
    replace p430 := eq_true p430; replace q430 := eq_true q430; have p8 : 0 ≤ (x2_1 : Int) := dT aQ; have q8 : (x2_1 : Int) < ((x0_1.length : Int) : Int) := dT aQ; obtain ⟨go8, co8, eo8, gb8, gl8, cl8, HG8⟩ := Kd.R_form HO_0.out (by omega)
    (first | cases eo8 | (injection eo8 with ea_ en_ ec_; (first | subst ea_ | (injection ea_ with ea_; subst ea_)); subst ec_; clear en_))
    have GB8 := aM gb8; have GG8 := aM HG8; clear gb8 gl8 HG8; have HMgo8 := aM (show (P0_ go8 ∨ w.heap.size ≤ go8) from (HO_0.out.1 _ rfl))
    (first | simp only [add_plain] at hx429_0 | skip)
    (first | simp only [add_plain] at hx429_1 | skip)
    (first | simp only [add_plain] at hx430_0 | skip)
    (first | simp only [add_plain] at hx430_1 | skip)
    obtain ⟨ce8, hcl8, hM8, hcc8, hfr8⟩ := Kd.R_elem HO_0.out z_impl_Peg (x2_1 : Int) p8 q8; obtain rfl := kd_impl_Peg_openM hM8; have hx8_0 : World.cell? _ ⟨go8, (x2_1 : Int).toNat * 2, none⟩ = some (.int .i64 ((rd_impl_Peg x0_1 x2_1).f0)) := hcc8 0 _ rfl; have hx8_1 : World.cell? _ ⟨go8, (x2_1 : Int).toNat * 2 + 1, none⟩ = some (.int .i64 ((rd_impl_Peg x0_1 x2_1).f1)) := hcc8 1 _ rfl; have hf8_0 : World.frozen? _ ⟨go8, (x2_1 : Int).toNat * 2, none⟩ = false := hfr8 0; have hf8_1 : World.frozen? _ ⟨go8, (x2_1 : Int).toNat * 2 + 1, none⟩ = false := hfr8 1; clear hcl8 hcc8 hfr8 hM8; replace p8 := eq_true p8; replace q8 := eq_true q8; obtain ⟨ce11, hcl11, hM11, hcc11, hfr11⟩ := Kd.R_elem HO_0.out z_impl_Peg (x2_1 : Int) (dT aQ) (by have h_ : (x2_1 : Int) < ((x0_1.length : Int) : Int) := dT aQ; first | exact h_ | (have e_ := (rR HO_0.out).1; omega) | simpa using h_)
    obtain rfl := kd_impl_Peg_openM hM11; have HP11 := (Kd.R_seg HO_0.out (x2_1 : Int) (dT aQ) (by have h_ : (x2_1 : Int) < ((x0_1.length : Int) : Int) := dT aQ; first | exact h_ | (have e_ := (rR HO_0.out).1; omega) | simpa using h_) (seg := [.int .i64 ((rd_impl_Peg x0_1 x3_1).f0), .int .i64 ((rd_impl_Peg x0_1 x3_1).f1)]) (j := 0) hcl11 hcc11 (show 2 ≤ 2 from by decide) (x' := (⟨(rd_impl_Peg x0_1 x3_1).f0, (rd_impl_Peg x0_1 x3_1).f1⟩ : S_impl_Peg)) (kd_impl_Peg_mkM _ _ _ (⟨(rd_impl_Peg x0_1 x3_1).f0, (rd_impl_Peg x0_1 x3_1).f1⟩ : S_impl_Peg) ) (fun _ hk => hk)).1
    rw [← Ny431.out] at HP11; have HQ11 := aM HP11; clear hcl11 hcc11 hfr11 hM11 HP11; have p9 : 0 ≤ (x3_1 : Int) := dT aQ; have q9 : (x3_1 : Int) < ((x0_1.length : Int) : Int) := dT aQ; obtain ⟨ce9, hcl9, hM9, hcc9, hfr9⟩ := Kd.R_elem HQ11.out z_impl_Peg (x3_1 : Int) p9 q9; obtain rfl := kd_impl_Peg_openM hM9; have hx9_0 : World.cell? _ ⟨go8, (x3_1 : Int).toNat * 2, none⟩ = some (.int .i64 ((rd_impl_Peg y431 x3_1).f0)) := hcc9 0 _ rfl; have hx9_1 : World.cell? _ ⟨go8, (x3_1 : Int).toNat * 2 + 1, none⟩ = some (.int .i64 ((rd_impl_Peg y431 x3_1).f1)) := hcc9 1 _ rfl; have hf9_0 : World.frozen? _ ⟨go8, (x3_1 : Int).toNat * 2, none⟩ = false := hfr9 0; have hf9_1 : World.frozen? _ ⟨go8, (x3_1 : Int).toNat * 2 + 1, none⟩ = false := hfr9 1; clear hcl9 hcc9 hfr9 hM9; replace p9 := eq_true p9; replace q9 := eq_true q9; obtain ⟨ce12, hcl12, hM12, hcc12, hfr12⟩ := Kd.R_elem HQ11.out z_impl_Peg (x3_1 : Int) (dT aQ) (by have h_ : (x3_1 : Int) < ((x0_1.length : Int) : Int) := dT aQ; first | exact h_ | (have e_ := (rR HO_0.out).1; omega) | simpa using h_)
    obtain rfl := kd_impl_Peg_openM hM12; have HP12 := (Kd.R_seg HQ11.out (x3_1 : Int) (dT aQ) (by have h_ : (x3_1 : Int) < ((x0_1.length : Int) : Int) := dT aQ; first | exact h_ | (have e_ := (rR HO_0.out).1; omega) | simpa using h_) (seg := [.int .i64 ((rd_impl_Peg x0_1 x2_1).f0), .int .i64 ((rd_impl_Peg x0_1 x2_1).f1)]) (j := 0) hcl12 hcc12 (show 2 ≤ 2 from by decide) (x' := (⟨(rd_impl_Peg x0_1 x2_1).f0, (rd_impl_Peg x0_1 x2_1).f1⟩ : S_impl_Peg)) (kd_impl_Peg_mkM _ _ _ (⟨(rd_impl_Peg x0_1 x2_1).f0, (rd_impl_Peg x0_1 x2_1).f1⟩ : S_impl_Peg) ) (fun _ hk => hk)).1
    rw [← Ny432.out] at HP12; have HQ12 := aM HP12; clear hcl12 hcc12 hfr12 hM12 HP12
    refine start_ (n := 16) (S := fun w' => w'.cell? ⟨go8, ((x3_1).toNat * 2), none⟩ = some (.int .i64 ((rd_impl_Peg x0_1 x3_1).f0)) ∧ w'.cell? ⟨go8, ((x3_1).toNat * 2) + 1, none⟩ = some (.int .i64 ((rd_impl_Peg x0_1 x3_1).f1)) ∧ w'.cell? ⟨go8, ((x2_1).toNat * 2), none⟩ = some (.int .i64 ((rd_impl_Peg x0_1 x2_1).f0)) ∧ w'.cell? ⟨go8, ((x2_1).toNat * 2) + 1, none⟩ = some (.int .i64 ((rd_impl_Peg x0_1 x2_1).f1))) (ds := [13, 15]) (bA 16 0) kR rfl rfl ⟨hx429_0, hx429_1, hx430_0, hx430_1⟩ (fun hHeld => ?_); refine with_tabW slices_Reverse_impl_Peg.tab3 slices_Reverse_impl_Peg.bits3 (fun HT_ HW_ => ?_)
    generalize wr.drew = w10 at HO_0 HK HB GG8 HQ11 HQ12 hf8_0 hf8_1 hf9_0 hf9_1 hx429_0 hx429_1 hx430_0 hx430_1 hx8_0 hx8_1 hx9_0 hx9_1 hHeld ⊢
    obtain ⟨vs0_, hs0_⟩ := cell?_setCell_some (p := ⟨go8, (x2_1 : Int).toNat * 2, none⟩) (x := .int .i64 ((rd_impl_Peg x0_1 x3_1).f0)) hx429_0; obtain ⟨va_, ha_⟩ := cell?_setCell_some (p := ⟨go8, (x2_1 : Int).toNat * 2, none⟩) (x := .int .i64 ((rd_impl_Peg x0_1 x3_1).f0)) hx429_1; obtain ⟨vs1_, hs1_⟩ := cell?_setCell_some (p := ⟨go8, (x2_1 : Int).toNat * 2 + 1, none⟩) (x := .int .i64 ((rd_impl_Peg x0_1 x3_1).f1)) ha_; clear ha_
    obtain ⟨ce_, hcl_, hM_, hcc_, hfr_⟩ := Kd.R_elem HO_0.out z_impl_Peg (x3_1 : Int) (dT aQ) (dT aQ); have hz0_ : World.frozen? _ ⟨go8, (x3_1 : Int).toNat * 2, none⟩ = false := hfr_ 0; have hz1_ : World.frozen? _ ⟨go8, (x3_1 : Int).toNat * 2 + 1, none⟩ = false := hfr_ 1; clear hcl_ hM_ hcc_ hfr_
    refine pU 0 14 (bA 16 1) HT_ ?_; refine pU 1 15 (bA 16 3) HT_ ?_; refine pU 2 16 (bA 16 7) HT_ ?_; refine pU 3 17 (bA 16 15) HT_ ?_; refine pU 4 18 (bA 16 31) HT_ ?_; refine pU 5 19 (bA 16 63) HT_ ?_; refine pU 6 20 (bA 16 127) HT_ ?_; refine pU 8 22 (bA 16 383) HT_ ?_; refine pU 9 23 (bA 16 895) HT_ ?_; refine pU 10 24 (bA 16 1919) HT_ ?_
    refine tU 7 21 (bA 16 2047) HT_ HW_ hHeld ?_ (hy := Or.inl ⟨by rfl, by rintro w' ⟨s0, s1, s2, s3⟩; go_simp; with_reducible rfl⟩)
    refine tU 11 25 (bA 16 4095) HT_ HW_ hHeld ?_ (hy := Or.inl ⟨by rfl, by rintro w' ⟨s0, s1, s2, s3⟩; go_simp; with_reducible rfl⟩)
    refine pU 12 26 (bA 16 8191) HT_ ?_
    refine last_ (i := 13) (N := none) (bA 16 16383) rfl rfl (one_of HT_.out kR) (by decide) (fun K hK => ?_)
    refine skip_ (w1 := ?_) (by rfl) rfl ?_ ?_
    rotate_left
    ·go_simp
     rfl
    refine hK.out _ _ ?_
    clear hK K; refine pU 14 27 (bA 16 32767) HT_ ?_
    refine last_ (i := 15) (N := none) (bA 16 65535) rfl rfl (one_of HT_.out kR) (by decide) (fun K hK => ?_)
    refine skip_ (w1 := ?_) (by rfl) rfl ?_ ?_
    rotate_left
    ·go_simp
     rfl
    refine hK.out _ _ ?_
    clear hK K
    refine done_ (done_of HT_.out kR) ?_
    try go_wp2
    (try simp only [← hl0_1])
    go_roundg k1
    case measure => have := HK1.out; omega
    case rel => exact ⟨(y432), (wrap64 (x2_1 + 1)), (wrap64 (x3_1 - 1)), eQ, eQ, H', ⟨by have := HK1.out; omega⟩, ⟨by (try simp only [hl0_1]); (with_reducible repeat (first | apply rA | apply rN | apply rD)); exact HQ12.out⟩, ⟨by repeat (first | (with_reducible first | exact HK.out | apply Kept.alloc | apply Kept.drewN | apply Kept.drew | refine Kept.setCell ?_ HMgo8.out _ | refine Kept.setCell ?_ HMgo8.out _ | refine Kept.setCell ?_ HMgo8.out _ | refine Kept.setCell ?_ HMgo8.out _) | exact HK.out)⟩, ⟨by repeat (first | (with_reducible first | exact HB.out | apply pA | apply pN | apply pD | refine pS ?_ GB8.out | refine pS ?_ GB8.out | refine pS ?_ GB8.out | refine pS ?_ GB8.out) | exact HB.out)⟩⟩
   ·rw [if_neg c3] at H; have c3b0 := decide_eq_false c3; clear c3; obtain rfl := Option.some.inj H; go_wp2
    first | go_end0 | ((try simp only [Exit.inBlock, Exit.then]); refine bodyPost_ret (results_none rfl _ _ _) rfl ?_)
    exact ⟨wQ, (by first | exact (by (with_reducible repeat (first | apply rA | apply rN | apply rD)); exact HO_0.out) | (simp only [hl0_1]; exact (by (with_reducible repeat (first | apply rA | apply rN | apply rD)); exact HO_0.out))), by repeat (first | (with_reducible first | exact HB.out | apply pA | apply pN | apply pD) | exact HB.out), by repeat (first | (with_reducible first | exact HK.out | apply Kept.alloc | apply Kept.drewN | apply Kept.drew) | exact HK.out)⟩

-- EXT slices.Grow[[]loop.example/g01259/impl.Peg,loop.example/g01259/impl.Peg] rounds=0 making=1 info=loop.example/g01259/impl.Peg
def slices_Grow_impl_Peg.f (l0 : List (S_impl_Peg)) (a1 : Int) : Option (List (S_impl_Peg)) := if 0 < a1 then (if a1 ≤ 8796093022208 then some [] else none) else none
set_option maxHeartbeats 8000000 in
set_option maxRecDepth 100000 in
theorem slices_Grow_impl_Peg.calls (A0 : Option Addr) (c0 : Nat) (l0 : List (S_impl_Peg)) (a1 : Int) (r : List (S_impl_Peg)) (w : World) (hr0 : Kd.C kd_impl_Peg w A0 l0.length l0) (hc0 : l0.length ≤ c0) (h : slices_Grow_impl_Peg.f l0 a1 = some r) (hz : A0 = none ∧ c0 = 0 := by exact ⟨rfl, rfl⟩) :
  Calls Try.prog 110 #[.slice A0 l0.length c0, .int .i64 a1] w fun e w' => ∃ v0_ : Value, e = .returned (v0_) ∧ Kd.R kd_impl_Peg 41 w' w.heap.size (fun _ => True) v0_ r ∧ Below w.heap.size w w' := by
 obtain ⟨rfl, rfl⟩ := hz; obtain rfl : l0 = [] := List.length_eq_zero_iff.1 (by omega)
 clear hr0 hc0
 unfold slices_Grow_impl_Peg.f at h
 by_cases c1 : 0 < a1
 ·rw [if_pos c1] at h
  by_cases c2 : a1 ≤ 8796093022208
  ·rw [if_pos c2] at h; obtain rfl := Option.some.inj h; obtain ⟨n, rfl⟩ := Int.eq_ofNat_of_zero_le (Int.le_of_lt c1); have hrz : ∀ ty, _ := fun ty => Kd.run_grow_nil (P := Try.prog) w 26 3 ty 41 Try.underlying26 Try.underlying3 info41 n (by omega) (by decide) (by omega) (by omega)
   have hGn : n ≤ grownCap w n 0 41 := grownCap_ge w _ _ _; have hG63 := grownCap_le_maxLen w n 0 41 (by unfold maxLen; omega)
   obtain ⟨G, hG⟩ : ∃ G, G = grownCap w n 0 41 := ⟨_, rfl⟩; rw [← hG] at hGn hG63
   simp only [← hG] at hrz
   clear hG; have hR := Kd.R_room kd_impl_Peg w 41 w.heap.size n G #[.int .i64 0, .int .i64 0] rfl (Nat.le_refl _) (by unfold maxLen at hG63; omega) hGn
   have hHR := aM hR
   have hrw := fun ty => (congrArg (fun z : Int => (Builtin.append_ #[26, 3] ty #[.slice none 0 0, .int .i64 z]).run Try.prog w) (show wrap64 (n : Int) = n by unfold wrap64; omega)).trans (hrz ty); have hw0 : wrap64 (0 : Int) = 0 := by unfold wrap64; omega
   have hwn : wrap64 (n : Int) = n := by unfold wrap64; omega
   have p1 : ¬ ((n : Int) < 0) := by omega
   have p2 : (n : Int) > 0 := c1; have p3 : (0 : Nat) ≤ G := Nat.zero_le _; clear hR c2 h
   go_enter Try.func110, Try.ntmps110
   go_wp2_with (at_builtin; refine Lib.wpList_append_run _ rfl _ _ _ _ rfl _ _ rfl rfl _ _ (hrw _) ?_)
   go_ret
   exact ⟨_, rfl, hHR.out, (Below.refl _ w).drew.alloc (Nat.le_refl _) _⟩
  ·rw [if_neg c2] at h
   exact absurd h (by simp)
 ·rw [if_neg c1] at h
  exact absurd h (by simp)

mutual
def slices_Concat_impl_Peg.l0 : Nat → List (List (S_impl_Peg)) → Int → List (List (S_impl_Peg)) → Int → Int → Option ((List (S_impl_Peg)))
 | 0, _, _, _, _, _ => none
 | k + 1, x0, x3, x9, x10, x11 => if x11 < x10 then (if 0 ≤ x11 then (if x11 < (x9.length : Int) then (if (wrap64 (x3 + ((rd_L5 x9 x11).length : Int))) < 0 then (none) else (slices_Concat_impl_Peg.l0 k x0 (wrap64 (x3 + ((rd_L5 x9 x11).length : Int))) x9 x10 (wrap64 (x11 + 1)))) else (none)) else (none)) else ((slices_Grow_impl_Peg.f ([] : List (S_impl_Peg)) x3).bind fun t434 => (slices_Concat_impl_Peg.l1 k t434 x0 (x0.length : Int) 0))
def slices_Concat_impl_Peg.l1 : Nat → List (S_impl_Peg) → List (List (S_impl_Peg)) → Int → Int → Option ((List (S_impl_Peg)))
 | 0, _, _, _, _ => none
 | k + 1, x6, x25, x26, x27 => if x27 < x26 then (if 0 ≤ x27 then (if x27 < (x25.length : Int) then (if x6.length + (rd_L5 x25 x27).length < 8796093022208 then (slices_Concat_impl_Peg.l1 k (x6 ++ (rd_L5 x25 x27)) x25 x26 (wrap64 (x27 + 1))) else (none)) else (none)) else (none)) else (some x6)
end
def slices_Concat_impl_Peg.f (k : Nat) (l0 : List (List (S_impl_Peg))) : Option ((List (S_impl_Peg))) := slices_Concat_impl_Peg.l0 k l0 0 l0 (l0.length : Int) 0
theorem slices_Concat_impl_Peg.mono_l : ∀ k, (∀ y0 y1 y2 y3 y4, LeO (slices_Concat_impl_Peg.l0 k y0 y1 y2 y3 y4) (slices_Concat_impl_Peg.l0 (k + 1) y0 y1 y2 y3 y4)) ∧ (∀ y0 y1 y2 y3, LeO (slices_Concat_impl_Peg.l1 k y0 y1 y2 y3) (slices_Concat_impl_Peg.l1 (k + 1) y0 y1 y2 y3))
 | 0 => ⟨fun _ _ _ _ _ r h => by simp [slices_Concat_impl_Peg.l0] at h, fun _ _ _ _ r h => by simp [slices_Concat_impl_Peg.l1] at h⟩
 | k + 1 => by
  obtain ⟨ih0, ih1⟩ := slices_Concat_impl_Peg.mono_l k
  refine ⟨?_, ?_⟩ <;> intros <;> (first | unfold slices_Concat_impl_Peg.l0 | unfold slices_Concat_impl_Peg.l1) <;> repeat' first | (with_reducible exact ih0 _ _ _ _ _) | (with_reducible exact ih1 _ _ _ _) | (with_reducible exact LeO.refl _) | (with_reducible exact LeO.none _) | (with_reducible refine LeO.ite ?_ ?_) | (with_reducible refine LeO.bind ?_ (fun _ => ?_)) | exact ih0 _ _ _ _ _ | exact ih1 _ _ _ _ | exact LeO.none _ | refine LeO.ite ?_ ?_ | refine LeO.bind ?_ (fun _ => ?_)
theorem slices_Concat_impl_Peg.mono : ∀ a0 k, LeO (slices_Concat_impl_Peg.f k a0) (slices_Concat_impl_Peg.f (k + 1) a0) := by
 intro a0 k
 obtain ⟨ih0, ih1⟩ := slices_Concat_impl_Peg.mono_l k
 unfold slices_Concat_impl_Peg.f
 repeat' first | (with_reducible exact ih0 _ _ _ _ _) | (with_reducible exact ih1 _ _ _ _) | (with_reducible exact LeO.refl _) | (with_reducible exact LeO.none _) | (with_reducible refine LeO.ite ?_ ?_) | (with_reducible refine LeO.bind ?_ (fun _ => ?_)) | exact ih0 _ _ _ _ _ | exact ih1 _ _ _ _ | exact LeO.none _ | refine LeO.ite ?_ ?_ | refine LeO.bind ?_ (fun _ => ?_)
set_option maxHeartbeats 8000000 in
set_option maxRecDepth 100000 in
theorem slices_Concat_impl_Peg.calls (k : Nat) (A0 : Option Addr) (c0 : Nat) (l0 : List (List (S_impl_Peg))) (r : List (S_impl_Peg)) (w : World) (hr0 : Kd.C (Kd.slice 41 kd_impl_Peg) w A0 l0.length l0) (hc0 : l0.length ≤ c0) (h : slices_Concat_impl_Peg.f k l0 = some r) :
  Calls Try.prog 85 #[.slice A0 l0.length c0] w fun e w' => ∃ v0_ : Value, e = .returned (v0_) ∧ Kd.R kd_impl_Peg 41 w' w.heap.size (fun _ => True) v0_ r ∧ Below w.heap.size w w' := by
 have HR0 := aM hr0; have HC0 := aM hc0; clear hr0 hc0; have HB := aM (Below.refl w.heap.size w)
 unfold slices_Concat_impl_Peg.f at h; have H := h; clear h
 have H' := aM H; clear H
 go_enter Try.func85, Try.ntmps85
 go_wp2
 go_loopg [3, 11] k (fun kq v3 v11 w' => ∃ (x3_1 : Int) (x11_1 : Int), v3 = .int .i64 x3_1 ∧ v11 = .int .i64 x11_1 ∧ Aside0 (slices_Concat_impl_Peg.l0 kq l0 x3_1 l0 (l0.length : Int) x11_1 = some r) ∧ Aside0 (kq ≤ k) ∧ Aside0 (Below w.heap.size w w'))
 case atStart => exact ⟨(0), (0), eQ, eQ, H', ⟨Nat.le_refl _⟩, ⟨bQ⟩⟩
 case round =>
  clear H'; obtain ⟨x3_1, x11_1, rfl, rfl, HA, HK1, HB⟩ := hrel
  cases gk with
  | zero => exact absurd HA.out (by simp [slices_Concat_impl_Peg.l0])
  | succ k1 =>
   have H := HA.out; clear HA
   simp only [slices_Concat_impl_Peg.l0] at H
   by_cases c2 : x11_1 < (l0.length : Int)
   ·rw [if_pos c2] at H; have c2b0 := dE c2; clear c2; replace H := iD H; obtain ⟨c3b0, H⟩ := H; replace H := iD H; obtain ⟨c4b0, H⟩ := H; replace H := iM H; obtain ⟨c5, H⟩ := H; have c5b0 := decide_eq_false c5; clear c5; have H' := aM H; clear H; have p433 : 0 ≤ (x11_1 : Int) := dT aQ; have q433 : x11_1 < (l0.length : Int) := dT aQ; obtain ⟨ad433, A433_0, c433_0, e433, hx433_0, hl433_0, hi433_0⟩ := at_L5 HR0.out x11_1 p433 q433
    cases e433
    replace hx433_0 := hC HB hx433_0; have HR433_0 := aM hi433_0; have HC433_0 := aM hl433_0; clear hi433_0 hl433_0; replace p433 := eq_true p433; replace q433 := eq_true q433; go_wp2
    go_roundg k1
    case measure => have := HK1.out; omega
    case rel => exact ⟨(wrap64 (x3_1 + ((rd_L5 l0 x11_1).length : Int))), (wrap64 (x11_1 + 1)), eQ, eQ, H', ⟨by have := HK1.out; omega⟩, ⟨bQ⟩⟩
   ·rw [if_neg c2] at H; have c2b0 := decide_eq_false c2; clear c2; replace H := bS H; obtain ⟨t434, A6, H⟩ := H; have H' := aM H; clear H
    go_wp2_with (first | ((with_reducible refine gC (f := 110) rfl ?_); refine goesL_ (some 24) rfl rfl Try.func110 kR rfl #[.slice none 0 0, .int .i64 x3_1] rfl sQ ?_; (refine (slices_Grow_impl_Peg.calls _ _ ([] : List (S_impl_Peg)) x3_1 t434 _ ?side1 ?side2 A6.out).mono ?_); (case side1 => exact Kd.C_nil _ _); (case side2 => exact Nat.le_refl _); rintro e w7 ⟨v435, rfl, ho0, hb⟩; refine ⟨_, rfl, ?_⟩; have HO436 := aM (Kd.R_lower ho0 (pZ bQ)); replace HB := tB HB hb; (try clear hb); (try clear hb2); (try clear hk); (try clear hi); (try clear ho0)))
    go_loopg [6, 27] k1 (fun kq v6 v27 w' => ∃ (x6_2 : List (S_impl_Peg)) (x27_2 : Int), v27 = .int .i64 x27_2 ∧ Aside0 (slices_Concat_impl_Peg.l1 kq x6_2 l0 (l0.length : Int) x27_2 = some r) ∧ Aside0 (kq ≤ k1) ∧ Aside0 (Kd.R kd_impl_Peg 41 w' w.heap.size (fun _ => True) v6 x6_2) ∧ Aside0 (Below w.heap.size w w'))
    case atStart => exact ⟨(t434), (0), eQ, H', ⟨Nat.le_refl _⟩, ⟨by (with_reducible repeat (first | apply rA | apply rN | apply rD)); exact HO436.out⟩, ⟨bQ⟩⟩
    case round =>
     clear H'; (try clear c2); (try clear c2b0); (try clear c3b0); (try clear c4b0); (try clear c5); (try clear c5b0); (try clear hx433_0); (try clear p433); (try clear q433); obtain ⟨x6_2, x27_2, rfl, HA, HK2, HO_6, HB⟩ := hrel
     cases gk with
     | zero => exact absurd HA.out (by simp [slices_Concat_impl_Peg.l1])
     | succ k2 =>
      have H := HA.out; clear HA
      simp only [slices_Concat_impl_Peg.l1] at H
      by_cases c8 : x27_2 < (l0.length : Int)
      ·rw [if_pos c8] at H; have c8b0 := dE c8; clear c8; replace H := iD H; obtain ⟨c9b0, H⟩ := H; replace H := iD H; obtain ⟨c10b0, H⟩ := H; replace H := iN H; obtain ⟨c11, H⟩ := H; have LMc11 := aM c11; clear c11; obtain ⟨y438, hy438⟩ : ∃ y_ : List (S_impl_Peg), y_ = (x6_2 ++ (rd_L5 l0 x27_2)) := ⟨_, rfl⟩; rw [← hy438] at H; have Ny438 := aM hy438; clear hy438; have H' := aM H; clear H; have p437 : 0 ≤ (x27_2 : Int) := dT aQ; have q437 : x27_2 < (l0.length : Int) := dT aQ; obtain ⟨ad437, A437_0, c437_0, e437, hx437_0, hl437_0, hi437_0⟩ := at_L5 HR0.out x27_2 p437 q437
       cases e437
       replace hx437_0 := hC HB hx437_0; have HR437_0 := aM hi437_0; have HC437_0 := aM hl437_0; clear hi437_0 hl437_0; replace p437 := eq_true p437; replace q437 := eq_true q437
       go_wp2_with (first | ((with_reducible refine gate_builtin (b := .append) (xs := #[.tmp 31, .tmp 32]) rfl ?_); at_builtin; refine Kd.R_append_rows kd_impl_Peg (w0 := w) w.heap.size rfl (.tmp 31) (.tmp 32) 26 41 (.agg #[(.int .i64 0), (.int .i64 0)]) 16 rfl Try.underlying26 info41 rfl (by decide) (by omega) u6 x6_2 (rd_L5 l0 x27_2) _ _ _ (fun _ => True) (fun _ => False) rfl rfl ?aO ?aR (fun _ _ h => h) (fun _ h => h.elim) ?aF ?aB ?aS ?aL ?_; (case aR => repeat (first | exact (Kd.C_below HR437_0.out HB.out) | (with_reducible refine cA ?_ _) | (with_reducible refine cN ?_ _) | (with_reducible refine cD ?_))); (case aB => exact bQ); (case aF => exact (fun _ _ => trivial)); (case aO => exact (by (with_reducible repeat (first | apply rA | apply rN | apply rD)); exact HO_6.out)); (case aS => exact (pZ bQ)); (case aL => have := LMc11.out; omega); intro v439 w12 ho hb hg hat; rw [← Ny438.out] at ho; have n0_ := aM (hb); have n1_ := aM (ho); clear HB; clear HO_6; have HB := n0_; have HO440 := n1_; clear n0_ n1_; clear ho hb hg hat))
       go_roundg k2
       case measure => have := HK1.out; have := HK2.out; omega
       case rel => exact ⟨(y438), (wrap64 (x27_2 + 1)), eQ, H', ⟨by have := HK1.out; have := HK2.out; omega⟩, ⟨by (with_reducible repeat (first | apply rA | apply rN | apply rD)); exact HO440.out⟩, ⟨bQ⟩⟩
      ·rw [if_neg c8] at H; have c8b0 := decide_eq_false c8; clear c8; obtain rfl := Option.some.inj H; go_wp2
       go_ret
       exact ⟨_, by first | rfl | (simp [errW_none, errW_some] <;> rfl) | (simp [*, errW_none, errW_some] <;> rfl), by (with_reducible repeat (first | apply rA | apply rN | apply rD)); exact HO_6.out, bQ⟩

end Go.Proofs.Ytoeclfihlhmnpaa.X
