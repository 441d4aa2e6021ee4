-- thin
-- short
-- compact
import Derived.Test.YtklhakfmegbobaaXA
import Derived.Test.YtklhakfmegbobaaX0
import Derived.Test.YtklhakfmegbobaaX7
import Derived.Test.YtklhakfmegbobaaX8
import Derived.Test.YtklhakfmegbobaaX9
import Derived.Test.YtklhakfmegbobaaX10
namespace Go.Proofs.Ytklhakfmegbobaa.X
open Go.RowKit Go.Proofs.Ytklhakfmegbobaa.XW Go.Proofs.YtklhakfmegbobaaW.PrintWords Go.Proofs.YtklhakfmegbobaaW.PrintLast Go.Proofs.YtklhakfmegbobaaW.PrintMore
attribute [local go_sem] max2_int min2_int max_two min_two max_three min_three max_four min_four   -- for this text's walks alone
set_option linter.unusedVariables false
set_option linter.unusedSimpArgs false

def impl_first.l0 : Nat → List (S_impl_Peg) → Int → List (S_impl_Peg) → Int → Int → Option (Int)
 | 0, _, _, _, _, _ => none
 | k + 1, x0, x3, x6, x7, x8 => if x8 < x7 then (if 0 ≤ x8 then (if x8 < (x6.length : Int) then (if 0 ≤ x3 then (if x3 < (x0.length : Int) then ((impl_comparePegs.f k ((rd_impl_Peg x6 x8).f0) ((rd_impl_Peg x6 x8).f1) ((rd_impl_Peg x0 x3).f0) ((rd_impl_Peg x0 x3).f1)).bind fun t263 => (if t263 < 0 then (impl_first.l0 k x0 x8 x6 x7 (wrap64 (x8 + 1))) else (impl_first.l0 k x0 x3 x6 x7 (wrap64 (x8 + 1))))) else (none)) else (none)) else (none)) else (none)) else (some x3)
def impl_first.f (k : Nat) (l0 : List (S_impl_Peg)) : Option (Int) := impl_first.l0 k l0 0 l0 (l0.length : Int) 0
theorem impl_first.mono_l : ∀ k, (∀ y0 y1 y2 y3 y4, LeO (impl_first.l0 k y0 y1 y2 y3 y4) (impl_first.l0 (k + 1) y0 y1 y2 y3 y4))
 | 0 => fun _ _ _ _ _ r h => by simp [impl_first.l0] at h
 | k + 1 => by
  have ih0 := impl_first.mono_l k
  ·intro y0 y1 y2 y3 y4
   unfold impl_first.l0
   repeat' first
   | (with_reducible exact ih0 _ _ _ _ _)
   | (with_reducible exact impl_comparePegs.mono _ _ _ _ _)
   | (with_reducible exact LeO.refl _)
   | (with_reducible exact LeO.none _)
   | (with_reducible refine LeO.ite ?_ ?_)
   | (with_reducible refine LeO.bind ?_ (fun _ => ?_))
   | exact ih0 _ _ _ _ _
   | exact impl_comparePegs.mono _ _ _ _ _
   | exact LeO.none _
   | refine LeO.ite ?_ ?_
   | refine LeO.bind ?_ (fun _ => ?_)
theorem impl_first.mono : ∀ a0 k, LeO (impl_first.f k a0) (impl_first.f (k + 1) a0) := by
 intro a0 k
 have ih0 := impl_first.mono_l k
 unfold impl_first.f
 repeat' first | (with_reducible exact ih0 _ _ _ _ _) | (with_reducible exact impl_comparePegs.mono _ _ _ _ _) | (with_reducible exact LeO.refl _) | (with_reducible exact LeO.none _) | (with_reducible refine LeO.ite ?_ ?_) | (with_reducible refine LeO.bind ?_ (fun _ => ?_)) | exact ih0 _ _ _ _ _ | exact impl_comparePegs.mono _ _ _ _ _ | exact LeO.none _ | refine LeO.ite ?_ ?_ | refine LeO.bind ?_ (fun _ => ?_)
set_option maxHeartbeats 8000000 in
set_option maxRecDepth 100000 in
theorem impl_first.calls (k : Nat) (A0 : Option Addr) (c0 : Nat) (l0 : List (S_impl_Peg)) (r : Int) (w : World) (hr0 : Kd.C kd_impl_Peg w A0 l0.length l0) (hc0 : l0.length ≤ c0) (h : impl_first.f k l0 = some r) :
  Calls Try.prog 123 #[.slice A0 l0.length c0] w fun e w' => e = .returned (.int .i64 r) ∧ Below w.heap.size w w' := by
 have hu26 := Try.underlying26; have HR0 := aM hr0; have HC0 := aM hc0; clear hr0 hc0; have HB := aM (Below.refl w.heap.size w)
 unfold impl_first.f at h; have H := h; clear h
 have H' := aM H; clear H
 go_enter Try.func123, Try.ntmps123
 go_wp2
 go_loopg [3, 8] k (fun kq v3 v8 w' => ∃ (x3_1 : Int) (x8_1 : Int), v3 = .int .i64 x3_1 ∧ v8 = .int .i64 x8_1 ∧ Aside0 (impl_first.l0 kq l0 x3_1 l0 (l0.length : Int) x8_1 = some r) ∧ Aside0 (kq ≤ k) ∧ Aside0 (Below w.heap.size w w'))
 case atStart => exact ⟨(0), (0), eQ, eQ, H', ⟨Nat.le_refl _⟩, ⟨bQ⟩⟩
 case round =>
  clear H'; obtain ⟨x3_1, x8_1, rfl, rfl, HA, HK1, HB⟩ := hrel
  cases gk with
  | zero => exact absurd HA.out (by simp [impl_first.l0])
  | succ k1 =>
   have H := HA.out; clear HA
   simp only [impl_first.l0] at H
   by_cases c2 : x8_1 < (l0.length : Int)
   ·rw [if_pos c2] at H; have c2b0 := dE c2; clear c2; replace H := iD H; obtain ⟨c3b0, H⟩ := H; replace H := iD H; obtain ⟨c4b0, H⟩ := H; replace H := iD H; obtain ⟨c5b0, H⟩ := H; replace H := iD H; obtain ⟨c6b0, H⟩ := H; replace H := bS H; obtain ⟨t263, A7, H⟩ := H
    by_cases c8 : t263 < 0
    ·rw [if_pos c8] at H; have c8b0 := dE c8; clear c8; have H' := aM H; clear H; have p260 : 0 ≤ (x8_1 : Int) := dT aQ; have q260 : x8_1 < (l0.length : Int) := dT aQ; obtain ⟨ad260, e260, hx260_0, hx260_1⟩ := at_impl_Peg HR0.out x8_1 p260 q260
     cases e260
     replace hx260_0 := hC HB hx260_0; replace hx260_1 := hC HB hx260_1; replace p260 := eq_true p260; replace q260 := eq_true q260
     try go_wp2_with (first | ((with_reducible refine gate_dst (N := 5) rfl ?_); refine bV 5 (cs := #[.int .i64 0, .int .i64 0]) (t := 26) rfl rfl (by first | (go_simp; done) | (go_simp; rfl)) ?_; intro gb261 hg w9 hbox hb; have BK261 := hbox; have GW261 := gZ HB hg; have GE261 := gZ HB hg; replace HB := tB HB hb; clear hb hbox hg; have hcz10_0 := vZ0 BK261; have hcz10_1 := vZ1 BK261; have hfz10_0 := kF BK261.out 0; have hfz10_1 := kF BK261.out 1))
     have n0_ : Aside0 (((w9.setCell ⟨gb261, 0, none⟩ (.int .i64 ((rd_impl_Peg l0 x8_1).f0))).setCell ⟨gb261, 1, none⟩ (.int .i64 ((rd_impl_Peg l0 x8_1).f1))).heap[gb261]? = some (.cells #[.int .i64 ((rd_impl_Peg l0 x8_1).f0), .int .i64 ((rd_impl_Peg l0 x8_1).f1)] 26 (0, 0))) := ⟨fQ BK261⟩; have n1_ : Aside0 (Below w.heap.size w ((w9.setCell ⟨gb261, 0, none⟩ (.int .i64 ((rd_impl_Peg l0 x8_1).f0))).setCell ⟨gb261, 1, none⟩ (.int .i64 ((rd_impl_Peg l0 x8_1).f1)))) := ⟨bE⟩; (try clear BK261); (try clear HB)
     generalize ((w9.setCell ⟨gb261, 0, none⟩ (.int .i64 ((rd_impl_Peg l0 x8_1).f0))).setCell ⟨gb261, 1, none⟩ (.int .i64 ((rd_impl_Peg l0 x8_1).f1))) = w11 at n0_ n1_ ⊢
     have BK261 := n0_; have HB := n1_; clear n0_ n1_; replace BK261 := aM (kD BK261.out); replace HB := aM (pD HB.out); have p262 : 0 ≤ (x3_1 : Int) := dT aQ; have q262 : x3_1 < (l0.length : Int) := dT aQ; obtain ⟨ad262, e262, hx262_0, hx262_1⟩ := at_impl_Peg HR0.out x3_1 p262 q262; have hw262_1 := hx262_1; have hw262_0 := hx262_0; obtain rfl : ad260 = ad262 := (by injection e262)
     replace hx262_0 := hC HB hx262_0; replace hx262_1 := hC HB hx262_1; replace p262 := eq_true p262; replace q262 := eq_true q262
     refine start_ (n := 7) (S := fun w' => w'.cell? ⟨gb261, 0, none⟩ = some (.int .i64 ((rd_impl_Peg l0 x8_1).f0)) ∧ w'.cell? ⟨gb261, 1, none⟩ = some (.int .i64 ((rd_impl_Peg l0 x8_1).f1)) ∧ w'.cell? (ad260.add ((x3_1).toNat * 2)) = some (.int .i64 ((rd_impl_Peg l0 x3_1).f0)) ∧ w'.cell? ⟨(ad260.add ((x3_1).toNat * 2)).block, (ad260.add ((x3_1).toNat * 2)).off + 1, none⟩ = some (.int .i64 ((rd_impl_Peg l0 x3_1).f1))) (ds := []) (bA 7 0) kR rfl kR ⟨vZ0 BK261, vZ1 BK261, (hC HB hw262_0 :), (hC HB hw262_1 :)⟩ (fun hHeld => ?_)
     generalize w11.drew = w12 at BK261 HB hx262_0 hx262_1 hHeld ⊢
     refine pure_ (i := 1) (N := some 14) (v := ?_) (a' := ?_) (bA 7 2) rfl rfl kR (fun _ _ _ h => h) (Or.inl ⟨by rfl, ?_⟩) ?_ ?_
     rotate_left
     ·intro w'
      go_simp
      with_reducible rfl
     rotate_left
     ·simp only [Act.put, sI, sZ, sS, i64_w, i32_w]
      rfl
     refine pure_ (i := 2) (N := some 15) (v := ?_) (a' := ?_) (bA 7 6) rfl rfl kR (fun _ _ _ h => h) (Or.inl ⟨by rfl, ?_⟩) ?_ ?_
     rotate_left
     ·intro w'
      go_simp
      with_reducible rfl
     rotate_left
     ·simp only [Act.put, sI, sZ, sS, i64_w, i32_w]
      rfl
     refine pure_ (i := 3) (N := some 16) (v := ?_) (a' := ?_) (bA 7 14) rfl rfl kR (fun _ _ _ h => h) (Or.inl ⟨by rfl, ?_⟩) ?_ ?_
     rotate_left
     ·intro w'
      go_simp
      with_reducible rfl
     rotate_left
     ·simp only [Act.put, sI, sZ, sS, i64_w, i32_w]
      rfl
     refine take_ (i := 0) (N := some 13) (v := ?_) (a' := ?_) (bA 7 15) rfl rfl kR (fun _ _ _ h => h) (Or.inl ⟨by rfl, ?_⟩) hHeld ?_ ?_
     rotate_left
     ·rintro w' ⟨s0, s1, s2, s3⟩
      go_simp
      with_reducible rfl
     rotate_left
     ·simp only [Act.put, sI, sZ, sS, i64_w, i32_w]
      rfl
     refine take_ (i := 4) (N := some 17) (v := ?_) (a' := ?_) (bA 7 31) rfl rfl kR (fun _ _ _ h => h) (Or.inl ⟨by rfl, ?_⟩) hHeld ?_ ?_
     rotate_left
     ·rintro w' ⟨s0, s1, s2, s3⟩
      go_simp
      with_reducible rfl
     rotate_left
     ·simp only [Act.put, sI, sZ, sS, i64_w, i32_w]
      rfl
     refine one_ (i := 5) (N := some 18) (bA 7 63) rfl rfl kR (by decide) (fun K hK => ?_)
     refine goes_ Try.func140 kR rfl #[.agg #[.int .i64 ((rd_impl_Peg l0 x8_1).f0), .int .i64 ((rd_impl_Peg l0 x8_1).f1)], .agg #[.int .i64 ((rd_impl_Peg l0 x3_1).f0), .int .i64 ((rd_impl_Peg l0 x3_1).f1)]] (by rfl) rfl rfl sQ ?_
     with_reducible refine (impl_comparePegs.calls k1 ((rd_impl_Peg l0 x8_1).f0) ((rd_impl_Peg l0 x8_1).f1) ((rd_impl_Peg l0 x3_1).f0) ((rd_impl_Peg l0 x3_1).f1) t263 _ A7.out).mono ?_
     rintro e w13 ⟨rfl, hb⟩; refine ⟨_, rfl, ?_⟩; replace BK261 := bB BK261 hb; replace HB := tB HB hb; (try clear hb); (try clear hb2); (try clear hk); (try clear hi)
     refine hK.out _ _ ⟨vZ0 BK261, vZ1 BK261, (hC HB hw262_0 :), (hC HB hw262_1 :)⟩ (fun hHeld => ?_)
     clear hK K
     refine nU ?_
     refine pure_ (i := 6) (N := some 19) (v := ?_) (a' := ?_) (bA 7 127) rfl rfl kR (fun _ _ _ h => h) (Or.inl ⟨by rfl, ?_⟩) ?_ ?_
     rotate_left
     ·intro w'
      go_simp
      with_reducible rfl
     rotate_left
     ·simp only [Act.put, sI, sZ, sS, i64_w, i32_w]
      rfl
     refine done_ kR ?_
     try go_wp2
     go_roundg k1
     case measure => have := HK1.out; omega
     case rel => exact ⟨(x8_1), (wrap64 (x8_1 + 1)), eQ, eQ, H', ⟨by have := HK1.out; omega⟩, ⟨bE⟩⟩
    ·rw [if_neg c8] at H; have c8b0 := decide_eq_false c8; clear c8; have H' := aM H; clear H; have p260 : 0 ≤ (x8_1 : Int) := dT aQ; have q260 : x8_1 < (l0.length : Int) := dT aQ; obtain ⟨ad260, e260, hx260_0, hx260_1⟩ := at_impl_Peg HR0.out x8_1 p260 q260
     cases e260
     replace hx260_0 := hC HB hx260_0; replace hx260_1 := hC HB hx260_1; replace p260 := eq_true p260; replace q260 := eq_true q260
     try go_wp2_with (first | ((with_reducible refine gate_dst (N := 5) rfl ?_); refine bV 5 (cs := #[.int .i64 0, .int .i64 0]) (t := 26) rfl rfl (by first | (go_simp; done) | (go_simp; rfl)) ?_; intro gb261 hg w14 hbox hb; have BK261 := hbox; have GW261 := gZ HB hg; have GE261 := gZ HB hg; replace HB := tB HB hb; clear hb hbox hg; have hcz15_0 := vZ0 BK261; have hcz15_1 := vZ1 BK261; have hfz15_0 := kF BK261.out 0; have hfz15_1 := kF BK261.out 1))
     have n0_ : Aside0 (((w14.setCell ⟨gb261, 0, none⟩ (.int .i64 ((rd_impl_Peg l0 x8_1).f0))).setCell ⟨gb261, 1, none⟩ (.int .i64 ((rd_impl_Peg l0 x8_1).f1))).heap[gb261]? = some (.cells #[.int .i64 ((rd_impl_Peg l0 x8_1).f0), .int .i64 ((rd_impl_Peg l0 x8_1).f1)] 26 (0, 0))) := ⟨fQ BK261⟩; have n1_ : Aside0 (Below w.heap.size w ((w14.setCell ⟨gb261, 0, none⟩ (.int .i64 ((rd_impl_Peg l0 x8_1).f0))).setCell ⟨gb261, 1, none⟩ (.int .i64 ((rd_impl_Peg l0 x8_1).f1)))) := ⟨bE⟩; (try clear BK261); (try clear HB)
     generalize ((w14.setCell ⟨gb261, 0, none⟩ (.int .i64 ((rd_impl_Peg l0 x8_1).f0))).setCell ⟨gb261, 1, none⟩ (.int .i64 ((rd_impl_Peg l0 x8_1).f1))) = w16 at n0_ n1_ ⊢
     have BK261 := n0_; have HB := n1_; clear n0_ n1_; replace BK261 := aM (kD BK261.out); replace HB := aM (pD HB.out); have p262 : 0 ≤ (x3_1 : Int) := dT aQ; have q262 : x3_1 < (l0.length : Int) := dT aQ; obtain ⟨ad262, e262, hx262_0, hx262_1⟩ := at_impl_Peg HR0.out x3_1 p262 q262; have hw262_1 := hx262_1; have hw262_0 := hx262_0; obtain rfl : ad260 = ad262 := (by injection e262)
     replace hx262_0 := hC HB hx262_0; replace hx262_1 := hC HB hx262_1; replace p262 := eq_true p262; replace q262 := eq_true q262
     refine start_ (n := 7) (S := fun w' => w'.cell? ⟨gb261, 0, none⟩ = some (.int .i64 ((rd_impl_Peg l0 x8_1).f0)) ∧ w'.cell? ⟨gb261, 1, none⟩ = some (.int .i64 ((rd_impl_Peg l0 x8_1).f1)) ∧ w'.cell? (ad260.add ((x3_1).toNat * 2)) = some (.int .i64 ((rd_impl_Peg l0 x3_1).f0)) ∧ w'.cell? ⟨(ad260.add ((x3_1).toNat * 2)).block, (ad260.add ((x3_1).toNat * 2)).off + 1, none⟩ = some (.int .i64 ((rd_impl_Peg l0 x3_1).f1))) (ds := []) (bA 7 0) kR rfl kR ⟨vZ0 BK261, vZ1 BK261, (hC HB hw262_0 :), (hC HB hw262_1 :)⟩ (fun hHeld => ?_)
     generalize w16.drew = w17 at BK261 HB hx262_0 hx262_1 hHeld ⊢
     refine pure_ (i := 1) (N := some 14) (v := ?_) (a' := ?_) (bA 7 2) rfl rfl kR (fun _ _ _ h => h) (Or.inl ⟨by rfl, ?_⟩) ?_ ?_
     rotate_left
     ·intro w'
      go_simp
      with_reducible rfl
     rotate_left
     ·simp only [Act.put, sI, sZ, sS, i64_w, i32_w]
      rfl
     refine pure_ (i := 2) (N := some 15) (v := ?_) (a' := ?_) (bA 7 6) rfl rfl kR (fun _ _ _ h => h) (Or.inl ⟨by rfl, ?_⟩) ?_ ?_
     rotate_left
     ·intro w'
      go_simp
      with_reducible rfl
     rotate_left
     ·simp only [Act.put, sI, sZ, sS, i64_w, i32_w]
      rfl
     refine pure_ (i := 3) (N := some 16) (v := ?_) (a' := ?_) (bA 7 14) rfl rfl kR (fun _ _ _ h => h) (Or.inl ⟨by rfl, ?_⟩) ?_ ?_
     rotate_left
     ·intro w'
      go_simp
      with_reducible rfl
     rotate_left
     ·simp only [Act.put, sI, sZ, sS, i64_w, i32_w]
      rfl
     refine take_ (i := 0) (N := some 13) (v := ?_) (a' := ?_) (bA 7 15) rfl rfl kR (fun _ _ _ h => h) (Or.inl ⟨by rfl, ?_⟩) hHeld ?_ ?_
     rotate_left
     ·rintro w' ⟨s0, s1, s2, s3⟩
      go_simp
      with_reducible rfl
     rotate_left
     ·simp only [Act.put, sI, sZ, sS, i64_w, i32_w]
      rfl
     refine take_ (i := 4) (N := some 17) (v := ?_) (a' := ?_) (bA 7 31) rfl rfl kR (fun _ _ _ h => h) (Or.inl ⟨by rfl, ?_⟩) hHeld ?_ ?_
     rotate_left
     ·rintro w' ⟨s0, s1, s2, s3⟩
      go_simp
      with_reducible rfl
     rotate_left
     ·simp only [Act.put, sI, sZ, sS, i64_w, i32_w]
      rfl
     refine one_ (i := 5) (N := some 18) (bA 7 63) rfl rfl kR (by decide) (fun K hK => ?_)
     refine goes_ Try.func140 kR rfl #[.agg #[.int .i64 ((rd_impl_Peg l0 x8_1).f0), .int .i64 ((rd_impl_Peg l0 x8_1).f1)], .agg #[.int .i64 ((rd_impl_Peg l0 x3_1).f0), .int .i64 ((rd_impl_Peg l0 x3_1).f1)]] (by rfl) rfl rfl sQ ?_
     with_reducible refine (impl_comparePegs.calls k1 ((rd_impl_Peg l0 x8_1).f0) ((rd_impl_Peg l0 x8_1).f1) ((rd_impl_Peg l0 x3_1).f0) ((rd_impl_Peg l0 x3_1).f1) t263 _ A7.out).mono ?_
     rintro e w18 ⟨rfl, hb⟩; refine ⟨_, rfl, ?_⟩; replace BK261 := bB BK261 hb; replace HB := tB HB hb; (try clear hb); (try clear hb2); (try clear hk); (try clear hi)
     refine hK.out _ _ ⟨vZ0 BK261, vZ1 BK261, (hC HB hw262_0 :), (hC HB hw262_1 :)⟩ (fun hHeld => ?_)
     clear hK K
     refine nU ?_
     refine pure_ (i := 6) (N := some 19) (v := ?_) (a' := ?_) (bA 7 127) rfl rfl kR (fun _ _ _ h => h) (Or.inl ⟨by rfl, ?_⟩) ?_ ?_
     rotate_left
     ·intro w'
      go_simp
      with_reducible rfl
     rotate_left
     ·simp only [Act.put, sI, sZ, sS, i64_w, i32_w]
      rfl
     refine done_ kR ?_
     try go_wp2
     go_roundg k1
     case measure => have := HK1.out; omega
     case rel => exact ⟨(x3_1), (wrap64 (x8_1 + 1)), eQ, eQ, H', ⟨by have := HK1.out; omega⟩, ⟨bE⟩⟩
   ·rw [if_neg c2] at H; have c2b0 := decide_eq_false c2; clear c2; obtain rfl := Option.some.inj H; go_wp2
    go_ret
    exact ⟨wQ, bQ⟩

def impl_polygonBy.l0 : Nat → List Int → List (S_impl_Peg) → List (S_impl_Peg) → Int → Int → Option ((List (S_impl_Peg)))
 | 0, _, _, _, _, _ => none
 | k + 1, x0, x3, x11, x12, x13 => if x13 < x12 then (if 0 ≤ x13 then (if x13 < (x11.length : Int) then (if x13 < (x0.length : Int) then (if (rd x0 x13) < 2 then (if x3.length < 8796093022208 then (impl_polygonBy.l0 k x0 (x3 ++ [(⟨(rd_impl_Peg x11 x13).f0, (rd_impl_Peg x11 x13).f1⟩ : S_impl_Peg)]) x11 x12 (wrap64 (x13 + 1))) else (none)) else (impl_polygonBy.l0 k x0 x3 x11 x12 (wrap64 (x13 + 1)))) else (none)) else (none)) else (none)) else ((impl_first.f k x3).bind fun t279 => ((impl_told.f k x3 t279 1).bind fun t280 => (some t280)))
def impl_polygonBy.f (k : Nat) (l0 : List Int) : Option ((List (S_impl_Peg))) := (impl_pegsBy.f k l0).bind fun t267 => (if 0 ≤ (l0.length : Int) then (if (l0.length : Int) ≤ (t267.length : Int) then ((some (t267.take ((l0.length : Int) : Int).toNat : List (S_impl_Peg))).bind fun y270 => (impl_polygonBy.l0 k l0 (([] : List (S_impl_Peg))) y270 (y270.length : Int) 0)) else (none)) else (none))
theorem impl_polygonBy.mono_l : ∀ k, (∀ y0 y1 y2 y3 y4, LeO (impl_polygonBy.l0 k y0 y1 y2 y3 y4) (impl_polygonBy.l0 (k + 1) y0 y1 y2 y3 y4))
 | 0 => fun _ _ _ _ _ r h => by simp [impl_polygonBy.l0] at h
 | k + 1 => by
  have ih0 := impl_polygonBy.mono_l k
  ·intro y0 y1 y2 y3 y4
   unfold impl_polygonBy.l0
   repeat' first
   | (with_reducible exact ih0 _ _ _ _ _)
   | (with_reducible exact impl_first.mono _ _)
   | (with_reducible exact impl_pegsBy.mono _ _)
   | (with_reducible exact impl_told.mono _ _ _ _)
   | (with_reducible exact LeO.refl _)
   | (with_reducible exact LeO.none _)
   | (with_reducible refine LeO.ite ?_ ?_)
   | (with_reducible refine LeO.bind ?_ (fun _ => ?_))
   | exact ih0 _ _ _ _ _
   | exact impl_first.mono _ _
   | exact impl_pegsBy.mono _ _
   | exact impl_told.mono _ _ _ _
   | exact LeO.none _
   | refine LeO.ite ?_ ?_
   | refine LeO.bind ?_ (fun _ => ?_)
theorem impl_polygonBy.mono : ∀ a0 k, LeO (impl_polygonBy.f k a0) (impl_polygonBy.f (k + 1) a0) := by
 intro a0 k
 have ih0 := impl_polygonBy.mono_l k
 unfold impl_polygonBy.f
 repeat' first | (with_reducible exact ih0 _ _ _ _ _) | (with_reducible exact impl_first.mono _ _) | (with_reducible exact impl_pegsBy.mono _ _) | (with_reducible exact impl_told.mono _ _ _ _) | (with_reducible exact LeO.refl _) | (with_reducible exact LeO.none _) | (with_reducible refine LeO.ite ?_ ?_) | (with_reducible refine LeO.bind ?_ (fun _ => ?_)) | exact ih0 _ _ _ _ _ | exact impl_first.mono _ _ | exact impl_pegsBy.mono _ _ | exact impl_told.mono _ _ _ _ | exact LeO.none _ | refine LeO.ite ?_ ?_ | refine LeO.bind ?_ (fun _ => ?_)
set_option maxHeartbeats 8000000 in
set_option maxRecDepth 100000 in
theorem impl_polygonBy.calls (k : Nat) (A0 : Option Addr) (c0 : Nat) (l0 : List Int) (r : List (S_impl_Peg)) (w : World) (hr0 : Kd.C (Kd.int .i64) w A0 l0.length l0) (hc0 : l0.length ≤ c0) (h : impl_polygonBy.f k l0 = some r) :
  Calls Try.prog 76 #[.slice A0 l0.length c0] w fun e w' => ∃ v0_ : Value, e = .returned (v0_) ∧ Kd.R kd_impl_Peg 26 w' w.heap.size (fun _ => True) v0_ r ∧ Below w.heap.size w w' := by
 have hu26 := Try.underlying26; have HR0 := aM hr0; have HC0 := aM hc0; clear hr0 hc0; have HB := aM (Below.refl w.heap.size w)
 unfold impl_polygonBy.f at h; have H := h; clear h
 obtain ⟨y264, hy264⟩ : ∃ y_ : List (S_impl_Peg), y_ = (([] : List (S_impl_Peg))) := ⟨_, rfl⟩; rw [← hy264] at H; have Ny264 := aM hy264; clear hy264; replace H := bS H; obtain ⟨t267, A2, H⟩ := H; replace H := iN H; obtain ⟨c3, H⟩ := H; have c3b0 := eq_true c3; have c3b1 := dE c3; clear c3; replace H := iN H; obtain ⟨c4, H⟩ := H; have c4b0 := eq_true c4; have c4b1 := dE c4; clear c4; replace H := lS H; obtain ⟨y270, Ny270, H⟩ := H; have H' := aM H; clear H
 go_enter Try.func76, Try.ntmps76
 go_wp2_with (first | ((with_reducible refine gate_dst (N := 6) rfl ?_); refine Kd.R_lit kd_impl_Peg _ 26 ?hg (N := 6) ?hd (xs := ([] : List (S_impl_Peg))) (inner := []) (ok := fun _ => True) (okp := fun _ => True) ?hr ?hp (fun _ hk => hk) trivial (Below.refl _ _) (Nat.le_refl _) (by simp) ?_; (case hd => rfl); (case hg => rfl); (case hr => first | (go_simp; done) | (go_simp; rfl)); (case hp => exact (Reps.none _ _)); intro v265 w5 ho6 hb hg_ hnew_; clear hg_ hnew_; (first | rw [← Ny264.out] at ho6 | (simp only [Int.reduceToNat] at ho6; rw [← Ny264.out] at ho6)); have HO266 := aM (Kd.R_lower ho6 (pZ bQ)); replace HB := tB HB hb; clear hb ho6) | ((with_reducible refine gC (f := 75) rfl ?_); refine goesL_ (some 8) rfl rfl Try.func75 kR rfl #[.slice A0 l0.length c0] rfl sQ ?_; (with_reducible refine (impl_pegsBy.calls k _ _ l0 t267 _ ?side1 ?side2 A2.out).mono ?_); (case side1 => repeat (first | exact (Kd.C_below HR0.out HB.out) | (with_reducible refine cA ?_ _) | (with_reducible refine cN ?_ _) | (with_reducible refine cD ?_))); (case side2 => exact HC0.out); rintro e w7 ⟨v268, rfl, ho0, hb⟩; refine ⟨_, rfl, ?_⟩; have HO269 := aM (Kd.R_lower (Kd.R_new' ho0 (Kd.R_lt (by (with_reducible repeat (first | apply rA | apply rN | apply rD)); exact HO266.out))) (pZ bQ)); replace HO266 := aM (Kd.R_elder' (by (with_reducible repeat (first | apply rA | apply rN | apply rD)); exact HO266.out) (Kd.R_base ho0) hb); replace HB := tB HB hb; (try clear hb); (try clear hb2); (try clear hk); (try clear hi); (try clear ho0); obtain ⟨Ao8, co8, eo8⟩ := Kd.R_slice HO269.out; subst eo8; have q9 : ((l0.length : Int) : Int) ≤ ((t267.length : Int) : Int) := dT aQ; obtain ⟨i09, hi09, _, hsz9, _⟩ := info_parts info26; have hcut9 := cut_to (P := Try.prog) 29 26 .i64 Try.underlying29 hi09 Ao8 t267.length co8 (l0.length : Int) (dT aQ) q9 (rR HO269.out).2.1; have hr9 := Kd.R_take (m := ((l0.length : Int) : Int).toNat) HO269.out (by omega); have hy9 : y270.length = ((l0.length : Int) : Int).toNat := (by rw [Ny270.out, lT]; omega); rw [← Ny270.out] at hr9; rw [← hy9] at hr9 hcut9; clear hy9 hi09 hsz9 HO269; have HO272 := aM hr9; clear hr9; replace q9 := eq_true q9))
 go_loopg [3, 13] k (fun kq v3 v13 w' => ∃ (x3_1 : List (S_impl_Peg)) (x13_1 : Int), v13 = .int .i64 x13_1 ∧ Aside0 (impl_polygonBy.l0 kq l0 x3_1 y270 (y270.length : Int) x13_1 = some r) ∧ Aside0 (kq ≤ k) ∧ Aside0 (Kd.R kd_impl_Peg 26 w' w.heap.size (fun k_ => some k_ ≠ ((.slice Ao8 y270.length co8) : Value).ownBlock) v3 x3_1) ∧ Aside0 (Kd.R kd_impl_Peg 26 w' w.heap.size (fun k_ => some k_ ≠ (v3 : Value).ownBlock) (.slice Ao8 y270.length co8) y270) ∧ Aside0 (Below w.heap.size w w'))
 case atStart => exact ⟨(y264), (0), eQ, H', ⟨Nat.le_refl _⟩, ⟨by (with_reducible repeat (first | apply rA | apply rN | apply rD)); exact Kd.R_mono HO266.out (fun _ hk => by first | exact hk.2 | (have h_ := hk.2; revert h_; cases Ao23 <;> exact id) | (have h_ := hk.2; revert h_; cases Ao8 <;> exact id))⟩, ⟨by (with_reducible repeat (first | apply rA | apply rN | apply rD)); exact Kd.R_mono HO272.out (fun _ hk => by first | exact hk.2 | (have h_ := hk.2; revert h_; cases Ao23 <;> exact id) | (have h_ := hk.2; revert h_; cases Ao8 <;> exact id))⟩, ⟨bQ⟩⟩
 case round =>
  clear H'; (try clear c3); (try clear c3b0); (try clear c3b1); (try clear c4); (try clear c4b0); (try clear c4b1); (try clear q9); obtain ⟨x3_1, x13_1, rfl, HA, HK1, HO_3, HO_11, HB⟩ := hrel
  cases gk with
  | zero => exact absurd HA.out (by simp [impl_polygonBy.l0])
  | succ k1 =>
   have H := HA.out; clear HA
   simp only [impl_polygonBy.l0] at H
   by_cases c10 : x13_1 < (y270.length : Int)
   ·rw [if_pos c10] at H; have c10b0 := dE c10; clear c10; replace H := iD H; obtain ⟨c11b0, H⟩ := H; replace H := iD H; obtain ⟨c12b0, H⟩ := H; replace H := iD H; obtain ⟨c13b0, H⟩ := H
    by_cases c14 : (rd l0 x13_1) < 2
    ·rw [if_pos c14] at H; have c14b0 := dE c14; clear c14; replace H := iN H; obtain ⟨c15, H⟩ := H; have LMc15 := aM c15; clear c15; obtain ⟨y276, hy276⟩ : ∃ y_ : List (S_impl_Peg), y_ = (x3_1 ++ [(⟨(rd_impl_Peg y270 x13_1).f0, (rd_impl_Peg y270 x13_1).f1⟩ : S_impl_Peg)]) := ⟨_, rfl⟩; rw [← hy276] at H; have Ny276 := aM hy276; clear hy276; have H' := aM H; clear H; have p273 : 0 ≤ (x13_1 : Int) := dT aQ; have q273 : x13_1 < (y270.length : Int) := dT aQ; obtain ⟨ad273, e273, hx273_0, hx273_1⟩ := at_impl_Peg (rR HO_11.out).2.2 x13_1 p273 q273
     cases e273
     replace p273 := eq_true p273; replace q273 := eq_true q273
     go_wp2_with (first | ((with_reducible refine gate_dst (N := 5) rfl ?_); refine bV 5 (cs := #[.int .i64 0, .int .i64 0]) (t := 26) rfl rfl (by first | (go_simp; done) | (go_simp; rfl)) ?_; intro gb274 hg w16 hbox hb; have BK274 := hbox; have GW274 := gZ HB hg; have GE274 := gZ HB hg; replace HO_3 := aM (Kd.R_below (Kd.R_elderB (by (with_reducible repeat (first | apply rA | apply rN | apply rD)); exact HO_3.out) gb274 (Nat.le_of_eq hg.symm)) hb); replace HO_11 := aM (Kd.R_below (Kd.R_elderB (by (with_reducible repeat (first | apply rA | apply rN | apply rD)); exact HO_11.out) gb274 (Nat.le_of_eq hg.symm)) hb); replace HB := tB HB hb; clear hb hbox hg; have hcz17_0 := vZ0 BK274; have hcz17_1 := vZ1 BK274; have hfz17_0 := kF BK274.out 0; have hfz17_1 := kF BK274.out 1; have p275 : 0 ≤ (x13_1 : Int) := dT aQ; have q275 : x13_1 < (l0.length : Int) := dT aQ; obtain ⟨ad275, e275, hx275_0⟩ := Kd.at_int HR0.out x13_1 p275 q275; cases e275; have hn275_0 : ad275.block ≠ gb274 := nN (nL (by have := wB _ _ hx275_0; first | rwa [add_block] at this | exact this) GW274.out); have hn275_1 : ad275.block ≠ gb274 := nN (nL (by have := wB _ _ hx275_0; first | rwa [add_block] at this | exact this) GW274.out); replace hx275_0 := hC HB hx275_0; replace hx275_0 := (cell_far (p := ⟨gb274, 0, none⟩) (by first | (rw [add_block]; exact hn275_0) | (show (Addr.add _ _).block ≠ _; rw [add_block]; exact hn275_0) | exact hn275_0) (.int .i64 ((rd_impl_Peg y270 x13_1).f0))).trans hx275_0; replace hx275_0 := (cell_far (p := ⟨gb274, 1, none⟩) (by first | (rw [add_block]; exact hn275_1) | (show (Addr.add _ _).block ≠ _; rw [add_block]; exact hn275_1) | exact hn275_1) (.int .i64 ((rd_impl_Peg y270 x13_1).f1))).trans hx275_0; clear hn275_0; clear hn275_1; replace p275 := eq_true p275; replace q275 := eq_true q275) | ((with_reducible refine gate_builtin (b := .append) (xs := #[.tmp 23, .tmp 25]) rfl ?_); at_builtin; refine Kd.R_append kd_impl_Peg (w0 := w) w.heap.size rfl (.tmp 23) (.tmp 25) 29 26 (.agg #[(.int .i64 0), (.int .i64 0)]) 16 rfl Try.underlying29 info26 rfl (by decide) (by omega) u3 x3_1 (⟨(rd_impl_Peg y270 x13_1).f0, (rd_impl_Peg y270 x13_1).f1⟩ : S_impl_Peg) [.int .i64 ((rd_impl_Peg y270 x13_1).f0), .int .i64 ((rd_impl_Peg y270 x13_1).f1)] (fun k_ => some k_ ≠ (.slice (some ad273) y270.length co8 : Value).ownBlock ∧ k_ ≠ gb274) (fun _ => False) rfl (by first | (go_simp; done) | (go_simp; rfl)) ?aP (fun _ hk => hk.elim) ?aF ?aO ?aB ?aS ?aL ?_; (case aP => exact kd_impl_Peg_mkM _ _ _ (⟨(rd_impl_Peg y270 x13_1).f0, (rd_impl_Peg y270 x13_1).f1⟩ : S_impl_Peg)); (case aB => exact bE); (case aF => exact (fun k_ hk => ⟨Kd.fresh' (Kd.R_lt (by (with_reducible repeat (first | apply rA | apply rN | apply rD)); exact (Kd.R_mono (Kd.R_far (p := ⟨gb274, 1, none⟩) (Kd.R_far (p := ⟨gb274, 0, none⟩) (Kd.R_mono HO_11.out (fun k_ hk => (⟨hk, hk.2⟩ : _ ∧ k_ ≠ gb274))) (fun _ hk => by first | exact hk.2 | (have h_ := hk.2; revert h_; cases Ao23 <;> exact id) | (have h_ := hk.2; revert h_; cases Ao8 <;> exact id)) (.int .i64 ((rd_impl_Peg y270 x13_1).f0))) (fun _ hk => by first | exact hk.2 | (have h_ := hk.2; revert h_; cases Ao23 <;> exact id) | (have h_ := hk.2; revert h_; cases Ao8 <;> exact id)) (.int .i64 ((rd_impl_Peg y270 x13_1).f1))) (fun _ h_ => h_.1)))) k_ hk, Kd.freshB (g := gb274) (o := .cells #[.int .i64 ((rd_impl_Peg y270 x13_1).f0), .int .i64 ((rd_impl_Peg y270 x13_1).f1)] 26 (0, 0)) (fQ BK274) k_ hk⟩)); (case aO => exact (by (with_reducible repeat (first | apply rA | apply rN | apply rD)); exact Kd.R_mono (Kd.R_far (p := ⟨gb274, 1, none⟩) (Kd.R_far (p := ⟨gb274, 0, none⟩) (Kd.R_mono HO_3.out (fun k_ hk => (⟨hk, hk.2⟩ : _ ∧ k_ ≠ gb274))) (fun _ hk => by first | exact hk.2 | (have h_ := hk.2; revert h_; cases Ao23 <;> exact id) | (have h_ := hk.2; revert h_; cases Ao8 <;> exact id)) (.int .i64 ((rd_impl_Peg y270 x13_1).f0))) (fun _ hk => by first | exact hk.2 | (have h_ := hk.2; revert h_; cases Ao23 <;> exact id) | (have h_ := hk.2; revert h_; cases Ao8 <;> exact id)) (.int .i64 ((rd_impl_Peg y270 x13_1).f1))) (fun _ hk => ⟨hk.1.1, hk.1.2⟩))); (case aS => exact (pZ bE)); (case aL => have := LMc15.out; omega); intro v277 w18 ho hb hg hat; rw [← Ny276.out] at ho; have n0_ := aM (Kd.R_after (ok := (fun k_ => k_ ≠ gb274)) (by (with_reducible repeat (first | apply rA | apply rN | apply rD)); exact Kd.R_mono (Kd.R_far (p := ⟨gb274, 1, none⟩) (Kd.R_far (p := ⟨gb274, 0, none⟩) (Kd.R_mono HO_11.out (fun k_ hk => (⟨hk, hk.2⟩ : _ ∧ k_ ≠ gb274))) (fun _ hk => by first | exact hk.2 | (have h_ := hk.2; revert h_; cases Ao23 <;> exact id) | (have h_ := hk.2; revert h_; cases Ao8 <;> exact id)) (.int .i64 ((rd_impl_Peg y270 x13_1).f0))) (fun _ hk => by first | exact hk.2 | (have h_ := hk.2; revert h_; cases Ao23 <;> exact id) | (have h_ := hk.2; revert h_; cases Ao8 <;> exact id)) (.int .i64 ((rd_impl_Peg y270 x13_1).f1))) (fun _ hk => ⟨hk.1.2, hk.1.1⟩)) hg hat); have n1_ := aM (blk_grown (g := gb274) (o := .cells #[.int .i64 ((rd_impl_Peg y270 x13_1).f0), .int .i64 ((rd_impl_Peg y270 x13_1).f1)] 26 (0, 0)) (fQ BK274) hg (Kd.R_away HO_3.out (fun _ hk => by first | exact hk.2 | (have h_ := hk.2; revert h_; cases Ao23 <;> exact id) | (have h_ := hk.2; revert h_; cases Ao8 <;> exact id)))); have n2_ := aM (hb); have n3_ := aM (ho); clear HO_11; clear BK274; clear HB; clear HO_3; have HO_11 := n0_; have BK274 := n1_; have HB := n2_; have HO278 := n3_; clear n0_ n1_ n2_ n3_; clear ho hb hg hat))
     go_roundg k1
     case measure => have := HK1.out; omega
     case rel => exact ⟨(y276), (wrap64 (x13_1 + 1)), eQ, H', ⟨by have := HK1.out; omega⟩, ⟨by (with_reducible repeat (first | apply rA | apply rN | apply rD)); exact Kd.R_mono HO278.out (fun _ hk => hk.1)⟩, ⟨by (with_reducible repeat (first | apply rA | apply rN | apply rD)); exact Kd.R_mono HO_11.out (fun _ hk => by first | exact hk.2 | (have h_ := hk.2; revert h_; cases Ao23 <;> exact id) | (have h_ := hk.2; revert h_; cases Ao8 <;> exact id))⟩, ⟨bE⟩⟩
    ·rw [if_neg c14] at H; have c14b0 := decide_eq_false c14; clear c14; have H' := aM H; clear H; have p273 : 0 ≤ (x13_1 : Int) := dT aQ; have q273 : x13_1 < (y270.length : Int) := dT aQ; obtain ⟨ad273, e273, hx273_0, hx273_1⟩ := at_impl_Peg (rR HO_11.out).2.2 x13_1 p273 q273
     cases e273
     replace p273 := eq_true p273; replace q273 := eq_true q273
     go_wp2_with (first | ((with_reducible refine gate_dst (N := 5) rfl ?_); refine bV 5 (cs := #[.int .i64 0, .int .i64 0]) (t := 26) rfl rfl (by first | (go_simp; done) | (go_simp; rfl)) ?_; intro gb274 hg w19 hbox hb; have BK274 := hbox; have GW274 := gZ HB hg; have GE274 := gZ HB hg; replace HO_3 := aM (Kd.R_below (Kd.R_elderB (by (with_reducible repeat (first | apply rA | apply rN | apply rD)); exact HO_3.out) gb274 (Nat.le_of_eq hg.symm)) hb); replace HO_11 := aM (Kd.R_below (Kd.R_elderB (by (with_reducible repeat (first | apply rA | apply rN | apply rD)); exact HO_11.out) gb274 (Nat.le_of_eq hg.symm)) hb); replace HB := tB HB hb; clear hb hbox hg; have hcz20_0 := vZ0 BK274; have hcz20_1 := vZ1 BK274; have hfz20_0 := kF BK274.out 0; have hfz20_1 := kF BK274.out 1; have p275 : 0 ≤ (x13_1 : Int) := dT aQ; have q275 : x13_1 < (l0.length : Int) := dT aQ; obtain ⟨ad275, e275, hx275_0⟩ := Kd.at_int HR0.out x13_1 p275 q275; cases e275; have hn275_0 : ad275.block ≠ gb274 := nN (nL (by have := wB _ _ hx275_0; first | rwa [add_block] at this | exact this) GW274.out); have hn275_1 : ad275.block ≠ gb274 := nN (nL (by have := wB _ _ hx275_0; first | rwa [add_block] at this | exact this) GW274.out); replace hx275_0 := hC HB hx275_0; replace hx275_0 := (cell_far (p := ⟨gb274, 0, none⟩) (by first | (rw [add_block]; exact hn275_0) | (show (Addr.add _ _).block ≠ _; rw [add_block]; exact hn275_0) | exact hn275_0) (.int .i64 ((rd_impl_Peg y270 x13_1).f0))).trans hx275_0; replace hx275_0 := (cell_far (p := ⟨gb274, 1, none⟩) (by first | (rw [add_block]; exact hn275_1) | (show (Addr.add _ _).block ≠ _; rw [add_block]; exact hn275_1) | exact hn275_1) (.int .i64 ((rd_impl_Peg y270 x13_1).f1))).trans hx275_0; clear hn275_0; clear hn275_1; replace p275 := eq_true p275; replace q275 := eq_true q275))
     go_roundg k1
     case measure => have := HK1.out; omega
     case rel => exact ⟨(x3_1), (wrap64 (x13_1 + 1)), eQ, H', ⟨by have := HK1.out; omega⟩, ⟨by (with_reducible repeat (first | apply rA | apply rN | apply rD)); exact Kd.R_mono (Kd.R_far (p := ⟨gb274, 1, none⟩) (Kd.R_far (p := ⟨gb274, 0, none⟩) (Kd.R_mono HO_3.out (fun k_ hk => (⟨hk, hk.2⟩ : _ ∧ k_ ≠ gb274))) (fun _ hk => by first | exact hk.2 | (have h_ := hk.2; revert h_; cases Ao23 <;> exact id) | (have h_ := hk.2; revert h_; cases Ao8 <;> exact id)) (.int .i64 ((rd_impl_Peg y270 x13_1).f0))) (fun _ hk => by first | exact hk.2 | (have h_ := hk.2; revert h_; cases Ao23 <;> exact id) | (have h_ := hk.2; revert h_; cases Ao8 <;> exact id)) (.int .i64 ((rd_impl_Peg y270 x13_1).f1))) (fun _ hk => hk.1.1)⟩, ⟨by (with_reducible repeat (first | apply rA | apply rN | apply rD)); exact Kd.R_mono (Kd.R_far (p := ⟨gb274, 1, none⟩) (Kd.R_far (p := ⟨gb274, 0, none⟩) (Kd.R_mono HO_11.out (fun k_ hk => (⟨hk, hk.2⟩ : _ ∧ k_ ≠ gb274))) (fun _ hk => by first | exact hk.2 | (have h_ := hk.2; revert h_; cases Ao23 <;> exact id) | (have h_ := hk.2; revert h_; cases Ao8 <;> exact id)) (.int .i64 ((rd_impl_Peg y270 x13_1).f0))) (fun _ hk => by first | exact hk.2 | (have h_ := hk.2; revert h_; cases Ao23 <;> exact id) | (have h_ := hk.2; revert h_; cases Ao8 <;> exact id)) (.int .i64 ((rd_impl_Peg y270 x13_1).f1))) (fun _ hk => hk.1.1)⟩, ⟨bE⟩⟩
   ·rw [if_neg c10] at H; have c10b0 := decide_eq_false c10; clear c10; replace H := bS H; obtain ⟨t279, A21, H⟩ := H; replace H := bS H; obtain ⟨t280, A22, H⟩ := H; obtain rfl := Option.some.inj H; obtain ⟨Ao23, co23, eo23⟩ := Kd.R_slice HO_3.out; subst eo23
    go_wp2_with (first | ((with_reducible refine gC (f := 123) rfl ?_); refine goesL_ (some 30) rfl rfl Try.func123 kR rfl #[.slice Ao23 x3_1.length co23] rfl sQ ?_; (with_reducible refine (impl_first.calls k1 _ _ x3_1 t279 _ ?side1 ?side2 A21.out).mono ?_); (case side1 => repeat (first | exact (rR HO_3.out).2.2 | (with_reducible refine cA ?_ _) | (with_reducible refine cN ?_ _) | (with_reducible refine cD ?_))); (case side2 => exact (rR HO_3.out).2.1); rintro e w24 ⟨rfl, hb⟩; refine ⟨_, rfl, ?_⟩; replace HO_3 := aM (Kd.R_below (by (with_reducible repeat (first | apply rA | apply rN | apply rD)); exact HO_3.out) hb); replace HO_11 := aM (Kd.R_below (by (with_reducible repeat (first | apply rA | apply rN | apply rD)); exact HO_11.out) hb); replace HB := tB HB hb; (try clear hb); (try clear hb2); (try clear hk); (try clear hi)) | ((with_reducible refine gC (f := 66) rfl ?_); refine goesL_ (some 31) rfl rfl Try.func66 kR rfl #[.slice Ao23 x3_1.length co23, .int .i64 t279, .int .i64 1] rfl sQ ?_; (with_reducible refine (impl_told.calls k1 _ _ x3_1 t279 1 t280 _ ?side1 ?side2 A22.out).mono ?_); (case side1 => repeat (first | exact (rR HO_3.out).2.2 | (with_reducible refine cA ?_ _) | (with_reducible refine cN ?_ _) | (with_reducible refine cD ?_))); (case side2 => exact (rR HO_3.out).2.1); rintro e w25 ⟨v281, rfl, ho0, hb⟩; refine ⟨_, rfl, ?_⟩; have HO282 := aM (Kd.R_lower (Kd.R_new' (Kd.R_new' ho0 (Kd.R_lt (by (with_reducible repeat (first | apply rA | apply rN | apply rD)); exact HO_3.out))) (Kd.R_lt (by (with_reducible repeat (first | apply rA | apply rN | apply rD)); exact HO_11.out))) (pZ bQ)); replace HO_3 := aM (Kd.R_elder' (by (with_reducible repeat (first | apply rA | apply rN | apply rD)); exact HO_3.out) (Kd.R_base ho0) hb); replace HO_11 := aM (Kd.R_elder' (by (with_reducible repeat (first | apply rA | apply rN | apply rD)); exact HO_11.out) (Kd.R_base ho0) hb); replace HB := tB HB hb; (try clear hb); (try clear hb2); (try clear hk); (try clear hi); (try clear ho0)))
    go_ret
    exact ⟨_, by first | rfl | (simp [errW_none, errW_some] <;> rfl) | (simp [*, errW_none, errW_some] <;> rfl), by (with_reducible repeat (first | apply rA | apply rN | apply rD)); exact Kd.R_mono HO282.out (fun _ hk => trivial), bQ⟩
def impl_PolygonOfNumbers.f (k : Nat) (l0 : List Int) : Option ((List (S_impl_Peg)) × Bool) := (impl_areNumbers.f k l0).bind fun t283 => (if t283 = true then ((impl_areAround.f k l0).bind fun t284 => (if t284 = true then ((impl_pegsBy.f k l0).bind fun t285 => ((impl_arePegs.f k t285).bind fun t288 => (if t288 = true then ((impl_polygonBy.f k l0).bind fun t289 => (some (t289, true))) else (some (([] : List (S_impl_Peg)), false))))) else (some (([] : List (S_impl_Peg)), false)))) else (some (([] : List (S_impl_Peg)), false)))
theorem impl_PolygonOfNumbers.mono : ∀ a0 k, LeO (impl_PolygonOfNumbers.f k a0) (impl_PolygonOfNumbers.f (k + 1) a0) := by
 intro a0 k
 unfold impl_PolygonOfNumbers.f
 repeat' first | (with_reducible exact impl_areAround.mono _ _) | (with_reducible exact impl_areNumbers.mono _ _) | (with_reducible exact impl_arePegs.mono _ _) | (with_reducible exact impl_pegsBy.mono _ _) | (with_reducible exact impl_polygonBy.mono _ _) | (with_reducible exact LeO.refl _) | (with_reducible exact LeO.none _) | (with_reducible refine LeO.ite ?_ ?_) | (with_reducible refine LeO.bind ?_ (fun _ => ?_)) | exact impl_areAround.mono _ _ | exact impl_areNumbers.mono _ _ | exact impl_arePegs.mono _ _ | exact impl_pegsBy.mono _ _ | exact impl_polygonBy.mono _ _ | exact LeO.none _ | refine LeO.ite ?_ ?_ | refine LeO.bind ?_ (fun _ => ?_)
set_option maxHeartbeats 8000000 in
set_option maxRecDepth 100000 in
theorem impl_PolygonOfNumbers.calls (k : Nat) (A0 : Option Addr) (c0 : Nat) (l0 : List Int) (r1 : List (S_impl_Peg)) (r2 : Bool) (w : World) (hr0 : Kd.C (Kd.int .i64) w A0 l0.length l0) (hc0 : l0.length ≤ c0) (h : impl_PolygonOfNumbers.f k l0 = some (r1, r2)) :
  Calls Try.prog 30 #[.slice A0 l0.length c0] w fun e w' => ∃ v0_ : Value, e = .returned (.tuple #[v0_, .bool r2]) ∧ Kd.R kd_impl_Peg 26 w' w.heap.size (fun _ => True) v0_ r1 ∧ Below w.heap.size w w' := by
 have HR0 := aM hr0; have HC0 := aM hc0; clear hr0 hc0; have HB := aM (Below.refl w.heap.size w)
 unfold impl_PolygonOfNumbers.f at h; have H := h; clear h
 replace H := bS H; obtain ⟨t283, A2, H⟩ := H
 by_cases c3 : t283 = true
 ·subst c3; replace H := iT H; replace H := bS H; obtain ⟨t284, A4, H⟩ := H
  by_cases c5 : t284 = true
  ·subst c5; replace H := iT H; replace H := bS H; obtain ⟨t285, A6, H⟩ := H; replace H := bS H; obtain ⟨t288, A7, H⟩ := H
   by_cases c8 : t288 = true
   ·subst c8; replace H := iT H; replace H := bS H; obtain ⟨t289, A9, H⟩ := H
    simp only [Option.some.injEq, Prod.mk.injEq] at H
    obtain ⟨rfl, rfl⟩ := H
    go_enter Try.func30, Try.ntmps30
    go_wp2_with (first | ((with_reducible refine gC (f := 72) rfl ?_); refine goesL_ (some 5) rfl rfl Try.func72 kR rfl #[.slice A0 l0.length c0] rfl sQ ?_; (with_reducible refine (impl_areNumbers.calls k _ _ l0 true _ ?side1 ?side2 A2.out).mono ?_); (case side1 => repeat (first | exact HR0.out | (with_reducible refine cA ?_ _) | (with_reducible refine cN ?_ _) | (with_reducible refine cD ?_))); (case side2 => exact HC0.out); rintro e w' ⟨rfl, ⟨nd, rfl⟩⟩; refine ⟨_, rfl, ?_⟩) | (go_at_call 73; (with_reducible refine (impl_areAround.calls k _ _ l0 true _ ?side1 ?side2 A4.out).mono ?_); (case side1 => repeat (first | exact HR0.out | (with_reducible refine cA ?_ _) | (with_reducible refine cN ?_ _) | (with_reducible refine cD ?_))); (case side2 => exact HC0.out); rintro e w10 ⟨rfl, hb⟩; replace HB := tB HB hb; (try clear hb); (try clear hb2); (try clear hk); (try clear hi)) | (go_at_call 75; (with_reducible refine (impl_pegsBy.calls k _ _ l0 t285 _ ?side1 ?side2 A6.out).mono ?_); (case side1 => repeat (first | exact (Kd.C_below HR0.out HB.out) | (with_reducible refine cA ?_ _) | (with_reducible refine cN ?_ _) | (with_reducible refine cD ?_))); (case side2 => exact HC0.out); rintro e w11 ⟨v286, rfl, ho0, hb⟩; have HO287 := aM (Kd.R_lower ho0 (pZ bQ)); replace HB := tB HB hb; (try clear hb); (try clear hb2); (try clear hk); (try clear hi); (try clear ho0); obtain ⟨Ao12, co12, eo12⟩ := Kd.R_slice HO287.out; subst eo12) | (go_at_call 74; (with_reducible refine (impl_arePegs.calls k _ _ t285 true _ ?side1 ?side2 A7.out).mono ?_); (case side1 => repeat (first | exact (rR HO287.out).2.2 | (with_reducible refine cA ?_ _) | (with_reducible refine cN ?_ _) | (with_reducible refine cD ?_))); (case side2 => exact (rR HO287.out).2.1); rintro e w13 ⟨rfl, hb⟩; replace HO287 := aM (Kd.R_below (by (with_reducible repeat (first | apply rA | apply rN | apply rD)); exact HO287.out) hb); replace HB := tB HB hb; (try clear hb); (try clear hb2); (try clear hk); (try clear hi)) | ((with_reducible refine gC (f := 76) rfl ?_); refine goesL_ (some 19) rfl rfl Try.func76 kR rfl #[.slice A0 l0.length c0] rfl sQ ?_; (with_reducible refine (impl_polygonBy.calls k _ _ l0 t289 _ ?side1 ?side2 A9.out).mono ?_); (case side1 => repeat (first | exact (Kd.C_below HR0.out HB.out) | (with_reducible refine cA ?_ _) | (with_reducible refine cN ?_ _) | (with_reducible refine cD ?_))); (case side2 => exact HC0.out); rintro e w14 ⟨v290, rfl, ho0, hb⟩; refine ⟨_, rfl, ?_⟩; have HO291 := aM (Kd.R_lower (Kd.R_new' ho0 (Kd.R_lt (by (with_reducible repeat (first | apply rA | apply rN | apply rD)); exact HO287.out))) (pZ bQ)); replace HO287 := aM (Kd.R_elder' (by (with_reducible repeat (first | apply rA | apply rN | apply rD)); exact HO287.out) (Kd.R_base ho0) hb); replace HB := tB HB hb; (try clear hb); (try clear hb2); (try clear hk); (try clear hi); (try clear ho0)))
    go_ret2
    exact ⟨_, by first | rfl | (simp [errW_none, errW_some] <;> rfl) | (simp [*, errW_none, errW_some] <;> rfl), by (with_reducible repeat (first | apply rA | apply rN | apply rD)); exact Kd.R_mono HO291.out (fun _ hk => trivial), bQ⟩
   ·replace c8 := Bool.eq_false_iff.mpr c8; subst c8; replace H := iF H
    simp only [Option.some.injEq, Prod.mk.injEq] at H
    obtain ⟨rfl, rfl⟩ := H
    go_enter Try.func30, Try.ntmps30
    go_wp2_with (first | ((with_reducible refine gC (f := 72) rfl ?_); refine goesL_ (some 5) rfl rfl Try.func72 kR rfl #[.slice A0 l0.length c0] rfl sQ ?_; (with_reducible refine (impl_areNumbers.calls k _ _ l0 true _ ?side1 ?side2 A2.out).mono ?_); (case side1 => repeat (first | exact HR0.out | (with_reducible refine cA ?_ _) | (with_reducible refine cN ?_ _) | (with_reducible refine cD ?_))); (case side2 => exact HC0.out); rintro e w' ⟨rfl, ⟨nd, rfl⟩⟩; refine ⟨_, rfl, ?_⟩) | (go_at_call 73; (with_reducible refine (impl_areAround.calls k _ _ l0 true _ ?side1 ?side2 A4.out).mono ?_); (case side1 => repeat (first | exact HR0.out | (with_reducible refine cA ?_ _) | (with_reducible refine cN ?_ _) | (with_reducible refine cD ?_))); (case side2 => exact HC0.out); rintro e w15 ⟨rfl, hb⟩; replace HB := tB HB hb; (try clear hb); (try clear hb2); (try clear hk); (try clear hi)) | (go_at_call 75; (with_reducible refine (impl_pegsBy.calls k _ _ l0 t285 _ ?side1 ?side2 A6.out).mono ?_); (case side1 => repeat (first | exact (Kd.C_below HR0.out HB.out) | (with_reducible refine cA ?_ _) | (with_reducible refine cN ?_ _) | (with_reducible refine cD ?_))); (case side2 => exact HC0.out); rintro e w16 ⟨v286, rfl, ho0, hb⟩; have HO287 := aM (Kd.R_lower ho0 (pZ bQ)); replace HB := tB HB hb; (try clear hb); (try clear hb2); (try clear hk); (try clear hi); (try clear ho0); obtain ⟨Ao17, co17, eo17⟩ := Kd.R_slice HO287.out; subst eo17) | (go_at_call 74; (with_reducible refine (impl_arePegs.calls k _ _ t285 false _ ?side1 ?side2 A7.out).mono ?_); (case side1 => repeat (first | exact (rR HO287.out).2.2 | (with_reducible refine cA ?_ _) | (with_reducible refine cN ?_ _) | (with_reducible refine cD ?_))); (case side2 => exact (rR HO287.out).2.1); rintro e w18 ⟨rfl, hb⟩; replace HO287 := aM (Kd.R_below (by (with_reducible repeat (first | apply rA | apply rN | apply rD)); exact HO287.out) hb); replace HB := tB HB hb; (try clear hb); (try clear hb2); (try clear hk); (try clear hi)))
    go_ret2
    exact ⟨_, by first | rfl | (simp [errW_none, errW_some] <;> rfl) | (simp [*, errW_none, errW_some] <;> rfl), by first | exact Kd.R_nil _ _ _ _ _ | exact Kd.N_nil _ _ _ _ _ | exact Kd.V_nil _ _ _ _ _ | exact Kd.Q_nil _ _ _ _ _ | exact Kd.S_nil _ _ _ _ _, bQ⟩
  ·replace c5 := Bool.eq_false_iff.mpr c5; subst c5; replace H := iF H
   simp only [Option.some.injEq, Prod.mk.injEq] at H
   obtain ⟨rfl, rfl⟩ := H
   go_enter Try.func30, Try.ntmps30
   go_wp2_with (first | ((with_reducible refine gC (f := 72) rfl ?_); refine goesL_ (some 5) rfl rfl Try.func72 kR rfl #[.slice A0 l0.length c0] rfl sQ ?_; (with_reducible refine (impl_areNumbers.calls k _ _ l0 true _ ?side1 ?side2 A2.out).mono ?_); (case side1 => repeat (first | exact HR0.out | (with_reducible refine cA ?_ _) | (with_reducible refine cN ?_ _) | (with_reducible refine cD ?_))); (case side2 => exact HC0.out); rintro e w' ⟨rfl, ⟨nd, rfl⟩⟩; refine ⟨_, rfl, ?_⟩) | (go_at_call 73; (with_reducible refine (impl_areAround.calls k _ _ l0 false _ ?side1 ?side2 A4.out).mono ?_); (case side1 => repeat (first | exact HR0.out | (with_reducible refine cA ?_ _) | (with_reducible refine cN ?_ _) | (with_reducible refine cD ?_))); (case side2 => exact HC0.out); rintro e w19 ⟨rfl, hb⟩; replace HB := tB HB hb; (try clear hb); (try clear hb2); (try clear hk); (try clear hi)))
   go_ret2
   exact ⟨_, by first | rfl | (simp [errW_none, errW_some] <;> rfl) | (simp [*, errW_none, errW_some] <;> rfl), by first | exact Kd.R_nil _ _ _ _ _ | exact Kd.N_nil _ _ _ _ _ | exact Kd.V_nil _ _ _ _ _ | exact Kd.Q_nil _ _ _ _ _ | exact Kd.S_nil _ _ _ _ _, bQ⟩
 ·replace c3 := Bool.eq_false_iff.mpr c3; subst c3; replace H := iF H
  simp only [Option.some.injEq, Prod.mk.injEq] at H
  obtain ⟨rfl, rfl⟩ := H
  go_enter Try.func30, Try.ntmps30
  go_wp2_with (first | ((with_reducible refine gC (f := 72) rfl ?_); refine goesL_ (some 5) rfl rfl Try.func72 kR rfl #[.slice A0 l0.length c0] rfl sQ ?_; (with_reducible refine (impl_areNumbers.calls k _ _ l0 false _ ?side1 ?side2 A2.out).mono ?_); (case side1 => repeat (first | exact HR0.out | (with_reducible refine cA ?_ _) | (with_reducible refine cN ?_ _) | (with_reducible refine cD ?_))); (case side2 => exact HC0.out); rintro e w' ⟨rfl, ⟨nd, rfl⟩⟩; refine ⟨_, rfl, ?_⟩))
  go_ret2
  exact ⟨_, by first | rfl | (simp [errW_none, errW_some] <;> rfl) | (simp [*, errW_none, errW_some] <;> rfl), by first | exact Kd.R_nil _ _ _ _ _ | exact Kd.N_nil _ _ _ _ _ | exact Kd.V_nil _ _ _ _ _ | exact Kd.Q_nil _ _ _ _ _ | exact Kd.S_nil _ _ _ _ _, bQ⟩

end Go.Proofs.Ytklhakfmegbobaa.X
