-- thin
-- short
-- compact
import Derived.Test.YtklhakfmegbobaaXA
import Derived.Test.YtklhakfmegbobaaX0
import Derived.Test.YtklhakfmegbobaaX12
import Derived.Test.YtklhakfmegbobaaX13
namespace Go.Proofs.Ytklhakfmegbobaa.X
open Go.RowKit Go.Proofs.Ytklhakfmegbobaa.XW Go.Proofs.YtklhakfmegbobaaW.PrintWords Go.Proofs.YtklhakfmegbobaaW.PrintLast Go.Proofs.YtklhakfmegbobaaW.PrintMore
attribute [local go_sem] max2_int min2_int max_two min_two max_three min_three max_four min_four   -- for this text's walks alone
set_option linter.unusedVariables false
set_option linter.unusedSimpArgs false

def impl_first.l0 : Nat → List (S_impl_Peg) → Int → List (S_impl_Peg) → Int → Int → Option (Int)
 | 0, _, _, _, _, _ => none
 | k + 1, x0, x3, x6, x7, x8 => if x8 < x7 then (if 0 ≤ x8 then (if x8 < (x6.length : Int) then (if 0 ≤ x3 then (if x3 < (x0.length : Int) then ((impl_comparePegs.f k ((rd_impl_Peg x6 x8).f0) ((rd_impl_Peg x6 x8).f1) ((rd_impl_Peg x0 x3).f0) ((rd_impl_Peg x0 x3).f1)).bind fun t285 => (if t285 < 0 then (impl_first.l0 k x0 x8 x6 x7 (wrap64 (x8 + 1))) else (impl_first.l0 k x0 x3 x6 x7 (wrap64 (x8 + 1))))) else (none)) else (none)) else (none)) else (none)) else (some x3)
def impl_first.f (k : Nat) (l0 : List (S_impl_Peg)) : Option (Int) := impl_first.l0 k l0 0 l0 (l0.length : Int) 0
theorem impl_first.mono_l : ∀ k, (∀ y0 y1 y2 y3 y4, LeO (impl_first.l0 k y0 y1 y2 y3 y4) (impl_first.l0 (k + 1) y0 y1 y2 y3 y4))
 | 0 => fun _ _ _ _ _ r h => by simp [impl_first.l0] at h
 | k + 1 => by
  have ih0 := impl_first.mono_l k
  ·intro y0 y1 y2 y3 y4
   unfold impl_first.l0
   repeat' first
   | (with_reducible exact ih0 _ _ _ _ _)
   | (with_reducible exact impl_comparePegs.mono _ _ _ _ _)
   | (with_reducible exact LeO.refl _)
   | (with_reducible exact LeO.none _)
   | (with_reducible refine LeO.ite ?_ ?_)
   | (with_reducible refine LeO.bind ?_ (fun _ => ?_))
   | exact ih0 _ _ _ _ _
   | exact impl_comparePegs.mono _ _ _ _ _
   | exact LeO.none _
   | refine LeO.ite ?_ ?_
   | refine LeO.bind ?_ (fun _ => ?_)
theorem impl_first.mono : ∀ a0 k, LeO (impl_first.f k a0) (impl_first.f (k + 1) a0) := by
 intro a0 k
 have ih0 := impl_first.mono_l k
 unfold impl_first.f
 repeat' first | (with_reducible exact ih0 _ _ _ _ _) | (with_reducible exact impl_comparePegs.mono _ _ _ _ _) | (with_reducible exact LeO.refl _) | (with_reducible exact LeO.none _) | (with_reducible refine LeO.ite ?_ ?_) | (with_reducible refine LeO.bind ?_ (fun _ => ?_)) | exact ih0 _ _ _ _ _ | exact impl_comparePegs.mono _ _ _ _ _ | exact LeO.none _ | refine LeO.ite ?_ ?_ | refine LeO.bind ?_ (fun _ => ?_)
set_option maxHeartbeats 8000000 in
set_option maxRecDepth 100000 in
theorem impl_first.calls (k : Nat) (A0 : Option Addr) (c0 : Nat) (l0 : List (S_impl_Peg)) (r : Int) (w : World) (hr0 : Kd.C kd_impl_Peg w A0 l0.length l0) (hc0 : l0.length ≤ c0) (h : impl_first.f k l0 = some r) :
  Calls Try.prog 123 #[.slice A0 l0.length c0] w fun e w' => e = .returned (.int .i64 r) ∧ Below w.heap.size w w' := by
 have hu26 := Try.underlying26; have HR0 := aM hr0; have HC0 := aM hc0; clear hr0 hc0; have HB := aM (Below.refl w.heap.size w)
 unfold impl_first.f at h; have H := h; clear h
 have H' := aM H; clear H
 go_enter Try.func123, Try.ntmps123
 go_wp2
 go_loopg [3, 8] k (fun kq v3 v8 w' => ∃ (x3_1 : Int) (x8_1 : Int), v3 = .int .i64 x3_1 ∧ v8 = .int .i64 x8_1 ∧ Aside0 (impl_first.l0 kq l0 x3_1 l0 (l0.length : Int) x8_1 = some r) ∧ Aside0 (kq ≤ k) ∧ Aside0 (Below w.heap.size w w'))
 case atStart => exact ⟨(0), (0), eQ, eQ, H', ⟨Nat.le_refl _⟩, ⟨bQ⟩⟩
 case round =>
  clear H'; obtain ⟨x3_1, x8_1, rfl, rfl, HA, HK1, HB⟩ := hrel
  cases gk with
  | zero => exact absurd HA.out (by simp [impl_first.l0])
  | succ k1 =>
   have H := HA.out; clear HA
   simp only [impl_first.l0] at H
   by_cases c2 : x8_1 < (l0.length : Int)
   ·rw [if_pos c2] at H; have c2b0 := dE c2; clear c2; replace H := iD H; obtain ⟨c3b0, H⟩ := H; replace H := iD H; obtain ⟨c4b0, H⟩ := H; replace H := iD H; obtain ⟨c5b0, H⟩ := H; replace H := iD H; obtain ⟨c6b0, H⟩ := H; replace H := bS H; obtain ⟨t285, A7, H⟩ := H
    by_cases c8 : t285 < 0
    ·rw [if_pos c8] at H; have c8b0 := dE c8; clear c8; have H' := aM H; clear H; have p282 : 0 ≤ (x8_1 : Int) := dT aQ; have q282 : x8_1 < (l0.length : Int) := dT aQ; obtain ⟨ad282, e282, hx282_0, hx282_1⟩ := at_impl_Peg HR0.out x8_1 p282 q282
     cases e282
     replace hx282_0 := hC HB hx282_0; replace hx282_1 := hC HB hx282_1; replace p282 := eq_true p282; replace q282 := eq_true q282
     try go_wp2_with (first | ((with_reducible refine gate_dst (N := 5) rfl ?_); refine bV 5 (cs := #[.int .i64 0, .int .i64 0]) (t := 26) rfl rfl (by first | (go_simp; done) | (go_simp; rfl)) ?_; intro gb283 hg w9 hbox hb; have BK283 := hbox; have GW283 := gZ HB hg; have GE283 := gZ HB hg; replace HB := tB HB hb; clear hb hbox hg; have hcz10_0 := vZ0 BK283; have hcz10_1 := vZ1 BK283; have hfz10_0 := kF BK283.out 0; have hfz10_1 := kF BK283.out 1))
     have n0_ : Aside0 (((w9.setCell ⟨gb283, 0, none⟩ (.int .i64 ((rd_impl_Peg l0 x8_1).f0))).setCell ⟨gb283, 1, none⟩ (.int .i64 ((rd_impl_Peg l0 x8_1).f1))).heap[gb283]? = some (.cells #[.int .i64 ((rd_impl_Peg l0 x8_1).f0), .int .i64 ((rd_impl_Peg l0 x8_1).f1)] 26 (0, 0))) := ⟨fQ BK283⟩; have n1_ : Aside0 (Below w.heap.size w ((w9.setCell ⟨gb283, 0, none⟩ (.int .i64 ((rd_impl_Peg l0 x8_1).f0))).setCell ⟨gb283, 1, none⟩ (.int .i64 ((rd_impl_Peg l0 x8_1).f1)))) := ⟨bE⟩; (try clear BK283); (try clear HB)
     generalize ((w9.setCell ⟨gb283, 0, none⟩ (.int .i64 ((rd_impl_Peg l0 x8_1).f0))).setCell ⟨gb283, 1, none⟩ (.int .i64 ((rd_impl_Peg l0 x8_1).f1))) = w11 at n0_ n1_ ⊢
     have BK283 := n0_; have HB := n1_; clear n0_ n1_; replace BK283 := aM (kD BK283.out); replace HB := aM (pD HB.out); have p284 : 0 ≤ (x3_1 : Int) := dT aQ; have q284 : x3_1 < (l0.length : Int) := dT aQ; obtain ⟨ad284, e284, hx284_0, hx284_1⟩ := at_impl_Peg HR0.out x3_1 p284 q284; have hw284_1 := hx284_1; have hw284_0 := hx284_0; obtain rfl : ad282 = ad284 := (by injection e284)
     replace hx284_0 := hC HB hx284_0; replace hx284_1 := hC HB hx284_1; replace p284 := eq_true p284; replace q284 := eq_true q284
     refine start_ (n := 7) (S := fun w' => w'.cell? ⟨gb283, 0, none⟩ = some (.int .i64 ((rd_impl_Peg l0 x8_1).f0)) ∧ w'.cell? ⟨gb283, 1, none⟩ = some (.int .i64 ((rd_impl_Peg l0 x8_1).f1)) ∧ w'.cell? (ad282.add ((x3_1).toNat * 2)) = some (.int .i64 ((rd_impl_Peg l0 x3_1).f0)) ∧ w'.cell? ⟨(ad282.add ((x3_1).toNat * 2)).block, (ad282.add ((x3_1).toNat * 2)).off + 1, none⟩ = some (.int .i64 ((rd_impl_Peg l0 x3_1).f1))) (ds := []) (bA 7 0) kR rfl kR ⟨vZ0 BK283, vZ1 BK283, (hC HB hw284_0 :), (hC HB hw284_1 :)⟩ (fun hHeld => ?_)
     generalize w11.drew = w12 at BK283 HB hx284_0 hx284_1 hHeld ⊢
     refine pure_ (i := 1) (N := some 14) (v := ?_) (a' := ?_) (bA 7 2) rfl rfl kR (fun _ _ _ h => h) (Or.inl ⟨by rfl, ?_⟩) ?_ ?_
     rotate_left
     ·intro w'
      go_simp
      with_reducible rfl
     rotate_left
     ·simp only [Act.put, sI, sZ, sS, i64_w, i32_w]
      rfl
     refine pure_ (i := 2) (N := some 15) (v := ?_) (a' := ?_) (bA 7 6) rfl rfl kR (fun _ _ _ h => h) (Or.inl ⟨by rfl, ?_⟩) ?_ ?_
     rotate_left
     ·intro w'
      go_simp
      with_reducible rfl
     rotate_left
     ·simp only [Act.put, sI, sZ, sS, i64_w, i32_w]
      rfl
     refine pure_ (i := 3) (N := some 16) (v := ?_) (a' := ?_) (bA 7 14) rfl rfl kR (fun _ _ _ h => h) (Or.inl ⟨by rfl, ?_⟩) ?_ ?_
     rotate_left
     ·intro w'
      go_simp
      with_reducible rfl
     rotate_left
     ·simp only [Act.put, sI, sZ, sS, i64_w, i32_w]
      rfl
     refine take_ (i := 0) (N := some 13) (v := ?_) (a' := ?_) (bA 7 15) rfl rfl kR (fun _ _ _ h => h) (Or.inl ⟨by rfl, ?_⟩) hHeld ?_ ?_
     rotate_left
     ·rintro w' ⟨s0, s1, s2, s3⟩
      go_simp
      with_reducible rfl
     rotate_left
     ·simp only [Act.put, sI, sZ, sS, i64_w, i32_w]
      rfl
     refine take_ (i := 4) (N := some 17) (v := ?_) (a' := ?_) (bA 7 31) rfl rfl kR (fun _ _ _ h => h) (Or.inl ⟨by rfl, ?_⟩) hHeld ?_ ?_
     rotate_left
     ·rintro w' ⟨s0, s1, s2, s3⟩
      go_simp
      with_reducible rfl
     rotate_left
     ·simp only [Act.put, sI, sZ, sS, i64_w, i32_w]
      rfl
     refine one_ (i := 5) (N := some 18) (bA 7 63) rfl rfl kR (by decide) (fun K hK => ?_)
     refine goes_ Try.func140 kR rfl #[.agg #[.int .i64 ((rd_impl_Peg l0 x8_1).f0), .int .i64 ((rd_impl_Peg l0 x8_1).f1)], .agg #[.int .i64 ((rd_impl_Peg l0 x3_1).f0), .int .i64 ((rd_impl_Peg l0 x3_1).f1)]] (by rfl) rfl rfl sQ ?_
     with_reducible refine (impl_comparePegs.calls k1 ((rd_impl_Peg l0 x8_1).f0) ((rd_impl_Peg l0 x8_1).f1) ((rd_impl_Peg l0 x3_1).f0) ((rd_impl_Peg l0 x3_1).f1) t285 _ A7.out).mono ?_
     rintro e w13 ⟨rfl, hb⟩; refine ⟨_, rfl, ?_⟩; replace BK283 := bB BK283 hb; replace HB := tB HB hb; (try clear hb); (try clear hb2); (try clear hk); (try clear hi)
     refine hK.out _ _ ⟨vZ0 BK283, vZ1 BK283, (hC HB hw284_0 :), (hC HB hw284_1 :)⟩ (fun hHeld => ?_)
     clear hK K
     refine nU ?_
     refine pure_ (i := 6) (N := some 19) (v := ?_) (a' := ?_) (bA 7 127) rfl rfl kR (fun _ _ _ h => h) (Or.inl ⟨by rfl, ?_⟩) ?_ ?_
     rotate_left
     ·intro w'
      go_simp
      with_reducible rfl
     rotate_left
     ·simp only [Act.put, sI, sZ, sS, i64_w, i32_w]
      rfl
     refine done_ kR ?_
     try go_wp2
     go_roundg k1
     case measure => have := HK1.out; omega
     case rel => exact ⟨(x8_1), (wrap64 (x8_1 + 1)), eQ, eQ, H', ⟨by have := HK1.out; omega⟩, ⟨bE⟩⟩
    ·rw [if_neg c8] at H; have c8b0 := decide_eq_false c8; clear c8; have H' := aM H; clear H; have p282 : 0 ≤ (x8_1 : Int) := dT aQ; have q282 : x8_1 < (l0.length : Int) := dT aQ; obtain ⟨ad282, e282, hx282_0, hx282_1⟩ := at_impl_Peg HR0.out x8_1 p282 q282
     cases e282
     replace hx282_0 := hC HB hx282_0; replace hx282_1 := hC HB hx282_1; replace p282 := eq_true p282; replace q282 := eq_true q282
     try go_wp2_with (first | ((with_reducible refine gate_dst (N := 5) rfl ?_); refine bV 5 (cs := #[.int .i64 0, .int .i64 0]) (t := 26) rfl rfl (by first | (go_simp; done) | (go_simp; rfl)) ?_; intro gb283 hg w14 hbox hb; have BK283 := hbox; have GW283 := gZ HB hg; have GE283 := gZ HB hg; replace HB := tB HB hb; clear hb hbox hg; have hcz15_0 := vZ0 BK283; have hcz15_1 := vZ1 BK283; have hfz15_0 := kF BK283.out 0; have hfz15_1 := kF BK283.out 1))
     have n0_ : Aside0 (((w14.setCell ⟨gb283, 0, none⟩ (.int .i64 ((rd_impl_Peg l0 x8_1).f0))).setCell ⟨gb283, 1, none⟩ (.int .i64 ((rd_impl_Peg l0 x8_1).f1))).heap[gb283]? = some (.cells #[.int .i64 ((rd_impl_Peg l0 x8_1).f0), .int .i64 ((rd_impl_Peg l0 x8_1).f1)] 26 (0, 0))) := ⟨fQ BK283⟩; have n1_ : Aside0 (Below w.heap.size w ((w14.setCell ⟨gb283, 0, none⟩ (.int .i64 ((rd_impl_Peg l0 x8_1).f0))).setCell ⟨gb283, 1, none⟩ (.int .i64 ((rd_impl_Peg l0 x8_1).f1)))) := ⟨bE⟩; (try clear BK283); (try clear HB)
     generalize ((w14.setCell ⟨gb283, 0, none⟩ (.int .i64 ((rd_impl_Peg l0 x8_1).f0))).setCell ⟨gb283, 1, none⟩ (.int .i64 ((rd_impl_Peg l0 x8_1).f1))) = w16 at n0_ n1_ ⊢
     have BK283 := n0_; have HB := n1_; clear n0_ n1_; replace BK283 := aM (kD BK283.out); replace HB := aM (pD HB.out); have p284 : 0 ≤ (x3_1 : Int) := dT aQ; have q284 : x3_1 < (l0.length : Int) := dT aQ; obtain ⟨ad284, e284, hx284_0, hx284_1⟩ := at_impl_Peg HR0.out x3_1 p284 q284; have hw284_1 := hx284_1; have hw284_0 := hx284_0; obtain rfl : ad282 = ad284 := (by injection e284)
     replace hx284_0 := hC HB hx284_0; replace hx284_1 := hC HB hx284_1; replace p284 := eq_true p284; replace q284 := eq_true q284
     refine start_ (n := 7) (S := fun w' => w'.cell? ⟨gb283, 0, none⟩ = some (.int .i64 ((rd_impl_Peg l0 x8_1).f0)) ∧ w'.cell? ⟨gb283, 1, none⟩ = some (.int .i64 ((rd_impl_Peg l0 x8_1).f1)) ∧ w'.cell? (ad282.add ((x3_1).toNat * 2)) = some (.int .i64 ((rd_impl_Peg l0 x3_1).f0)) ∧ w'.cell? ⟨(ad282.add ((x3_1).toNat * 2)).block, (ad282.add ((x3_1).toNat * 2)).off + 1, none⟩ = some (.int .i64 ((rd_impl_Peg l0 x3_1).f1))) (ds := []) (bA 7 0) kR rfl kR ⟨vZ0 BK283, vZ1 BK283, (hC HB hw284_0 :), (hC HB hw284_1 :)⟩ (fun hHeld => ?_)
     generalize w16.drew = w17 at BK283 HB hx284_0 hx284_1 hHeld ⊢
     refine pure_ (i := 1) (N := some 14) (v := ?_) (a' := ?_) (bA 7 2) rfl rfl kR (fun _ _ _ h => h) (Or.inl ⟨by rfl, ?_⟩) ?_ ?_
     rotate_left
     ·intro w'
      go_simp
      with_reducible rfl
     rotate_left
     ·simp only [Act.put, sI, sZ, sS, i64_w, i32_w]
      rfl
     refine pure_ (i := 2) (N := some 15) (v := ?_) (a' := ?_) (bA 7 6) rfl rfl kR (fun _ _ _ h => h) (Or.inl ⟨by rfl, ?_⟩) ?_ ?_
     rotate_left
     ·intro w'
      go_simp
      with_reducible rfl
     rotate_left
     ·simp only [Act.put, sI, sZ, sS, i64_w, i32_w]
      rfl
     refine pure_ (i := 3) (N := some 16) (v := ?_) (a' := ?_) (bA 7 14) rfl rfl kR (fun _ _ _ h => h) (Or.inl ⟨by rfl, ?_⟩) ?_ ?_
     rotate_left
     ·intro w'
      go_simp
      with_reducible rfl
     rotate_left
     ·simp only [Act.put, sI, sZ, sS, i64_w, i32_w]
      rfl
     refine take_ (i := 0) (N := some 13) (v := ?_) (a' := ?_) (bA 7 15) rfl rfl kR (fun _ _ _ h => h) (Or.inl ⟨by rfl, ?_⟩) hHeld ?_ ?_
     rotate_left
     ·rintro w' ⟨s0, s1, s2, s3⟩
      go_simp
      with_reducible rfl
     rotate_left
     ·simp only [Act.put, sI, sZ, sS, i64_w, i32_w]
      rfl
     refine take_ (i := 4) (N := some 17) (v := ?_) (a' := ?_) (bA 7 31) rfl rfl kR (fun _ _ _ h => h) (Or.inl ⟨by rfl, ?_⟩) hHeld ?_ ?_
     rotate_left
     ·rintro w' ⟨s0, s1, s2, s3⟩
      go_simp
      with_reducible rfl
     rotate_left
     ·simp only [Act.put, sI, sZ, sS, i64_w, i32_w]
      rfl
     refine one_ (i := 5) (N := some 18) (bA 7 63) rfl rfl kR (by decide) (fun K hK => ?_)
     refine goes_ Try.func140 kR rfl #[.agg #[.int .i64 ((rd_impl_Peg l0 x8_1).f0), .int .i64 ((rd_impl_Peg l0 x8_1).f1)], .agg #[.int .i64 ((rd_impl_Peg l0 x3_1).f0), .int .i64 ((rd_impl_Peg l0 x3_1).f1)]] (by rfl) rfl rfl sQ ?_
     with_reducible refine (impl_comparePegs.calls k1 ((rd_impl_Peg l0 x8_1).f0) ((rd_impl_Peg l0 x8_1).f1) ((rd_impl_Peg l0 x3_1).f0) ((rd_impl_Peg l0 x3_1).f1) t285 _ A7.out).mono ?_
     rintro e w18 ⟨rfl, hb⟩; refine ⟨_, rfl, ?_⟩; replace BK283 := bB BK283 hb; replace HB := tB HB hb; (try clear hb); (try clear hb2); (try clear hk); (try clear hi)
     refine hK.out _ _ ⟨vZ0 BK283, vZ1 BK283, (hC HB hw284_0 :), (hC HB hw284_1 :)⟩ (fun hHeld => ?_)
     clear hK K
     refine nU ?_
     refine pure_ (i := 6) (N := some 19) (v := ?_) (a' := ?_) (bA 7 127) rfl rfl kR (fun _ _ _ h => h) (Or.inl ⟨by rfl, ?_⟩) ?_ ?_
     rotate_left
     ·intro w'
      go_simp
      with_reducible rfl
     rotate_left
     ·simp only [Act.put, sI, sZ, sS, i64_w, i32_w]
      rfl
     refine done_ kR ?_
     try go_wp2
     go_roundg k1
     case measure => have := HK1.out; omega
     case rel => exact ⟨(x3_1), (wrap64 (x8_1 + 1)), eQ, eQ, H', ⟨by have := HK1.out; omega⟩, ⟨bE⟩⟩
   ·rw [if_neg c2] at H; have c2b0 := decide_eq_false c2; clear c2; obtain rfl := Option.some.inj H; go_wp2
    go_ret
    exact ⟨wQ, bQ⟩

def impl_sign.f (a0 : Int) : Option (Int) := some (mn 1 (mx (-1) a0))
set_option maxHeartbeats 8000000 in
set_option maxRecDepth 100000 in
theorem impl_sign.calls (a0 : Int) (r : Int) (w : World) (h : impl_sign.f a0 = some r) :
  Calls Try.prog 125 #[.int .i64 a0] w fun e w' => e = .returned (.int .i64 r) ∧ Below w.heap.size w w' := by
 have HB := aM (Below.refl w.heap.size w)
 unfold impl_sign.f at h; have H := h; clear h
 obtain ⟨ji2, hji2⟩ : ∃ j_ : Int, (mx (-1) a0) = j_ := ⟨_, rfl⟩
 (first | rw [hji2] at H | simp only [hji2] at H)
 have hji2_ : (if (-1) < a0 then a0 else (-1)) = ji2 := hji2; obtain ⟨ji3, hji3⟩ : ∃ j_ : Int, (mn 1 (ji2)) = j_ := ⟨_, rfl⟩
 (first | rw [hji3] at H | simp only [hji3] at H)
 have hji3_ : (if (ji2) < 1 then (ji2) else 1) = ji3 := hji3; obtain rfl := Option.some.inj H
 go_enter Try.func125, Try.ntmps125
 go_wp2
 go_ret
 exact ⟨by first | rfl | (simp [errW_none, errW_some] <;> rfl) | (simp only [← hji2, ← hji3]; first | rfl | (simp [errW_none, errW_some] <;> rfl)) | (simp [*, errW_none, errW_some] <;> rfl), bQ⟩

def impl_tellFirst.f (k : Nat) (l0 : List (S_impl_Peg)) : Option ((List (S_impl_Peg))) := (impl_first.f k l0).bind fun t286 => ((impl_twice.f k l0).bind fun t287 => ((impl_sign.f t287).bind fun t288 => ((impl_told.f k l0 t286 t288).bind fun t289 => (some t289))))
theorem impl_tellFirst.mono : ∀ a0 k, LeO (impl_tellFirst.f k a0) (impl_tellFirst.f (k + 1) a0) := by
 intro a0 k
 unfold impl_tellFirst.f
 repeat' first | (with_reducible exact impl_first.mono _ _) | (with_reducible exact impl_told.mono _ _ _ _) | (with_reducible exact impl_twice.mono _ _) | (with_reducible exact LeO.refl _) | (with_reducible exact LeO.none _) | (with_reducible refine LeO.ite ?_ ?_) | (with_reducible refine LeO.bind ?_ (fun _ => ?_)) | exact impl_first.mono _ _ | exact impl_told.mono _ _ _ _ | exact impl_twice.mono _ _ | exact LeO.none _ | refine LeO.ite ?_ ?_ | refine LeO.bind ?_ (fun _ => ?_)
set_option maxHeartbeats 8000000 in
set_option maxRecDepth 100000 in
theorem impl_tellFirst.calls (k : Nat) (A0 : Option Addr) (c0 : Nat) (l0 : List (S_impl_Peg)) (r : List (S_impl_Peg)) (w : World) (hr0 : Kd.C kd_impl_Peg w A0 l0.length l0) (hc0 : l0.length ≤ c0) (h : impl_tellFirst.f k l0 = some r) :
  Calls Try.prog 78 #[.slice A0 l0.length c0] w fun e w' => ∃ v0_ : Value, e = .returned (v0_) ∧ Kd.R kd_impl_Peg 26 w' w.heap.size (fun _ => True) v0_ r ∧ Below w.heap.size w w' := by
 have HR0 := aM hr0; have HC0 := aM hc0; clear hr0 hc0; have HB := aM (Below.refl w.heap.size w)
 unfold impl_tellFirst.f at h; have H := h; clear h
 replace H := bS H; obtain ⟨t286, A2, H⟩ := H; replace H := bS H; obtain ⟨t287, A3, H⟩ := H; replace H := bS H; obtain ⟨t288, A4, H⟩ := H; replace H := bS H; obtain ⟨t289, A5, H⟩ := H; obtain rfl := Option.some.inj H
 go_enter Try.func78, Try.ntmps78
 go_wp2_with (first | ((with_reducible refine gC (f := 123) rfl ?_); refine goesL_ (some 5) rfl rfl Try.func123 kR rfl #[.slice A0 l0.length c0] rfl sQ ?_; (with_reducible refine (impl_first.calls k _ _ l0 t286 _ ?side1 ?side2 A2.out).mono ?_); (case side1 => repeat (first | exact HR0.out | (with_reducible refine cA ?_ _) | (with_reducible refine cN ?_ _) | (with_reducible refine cD ?_))); (case side2 => exact HC0.out); rintro e w6 ⟨rfl, hb⟩; refine ⟨_, rfl, ?_⟩; replace HB := tB HB hb; (try clear hb); (try clear hb2); (try clear hk); (try clear hi)) | ((with_reducible refine gC (f := 61) rfl ?_); refine goesL_ (some 7) rfl rfl Try.func61 kR rfl #[.slice A0 l0.length c0] rfl sQ ?_; (with_reducible refine (impl_twice.calls k _ _ l0 t287 _ ?side1 ?side2 A3.out).mono ?_); (case side1 => repeat (first | exact (Kd.C_below HR0.out HB.out) | (with_reducible refine cA ?_ _) | (with_reducible refine cN ?_ _) | (with_reducible refine cD ?_))); (case side2 => exact HC0.out); rintro e w7 ⟨rfl, hb⟩; refine ⟨_, rfl, ?_⟩; replace HB := tB HB hb; (try clear hb); (try clear hb2); (try clear hk); (try clear hi)) | ((with_reducible refine gC (f := 125) rfl ?_); refine goesL_ (some 8) rfl rfl Try.func125 kR rfl #[.int .i64 t287] rfl sQ ?_; (with_reducible refine (impl_sign.calls t287 t288 _ A4.out).mono ?_); rintro e w8 ⟨rfl, hb⟩; refine ⟨_, rfl, ?_⟩; replace HB := tB HB hb; (try clear hb); (try clear hb2); (try clear hk); (try clear hi)) | ((with_reducible refine gC (f := 66) rfl ?_); refine goesL_ (some 9) rfl rfl Try.func66 kR rfl #[.slice A0 l0.length c0, .int .i64 t286, .int .i64 t288] rfl sQ ?_; (with_reducible refine (impl_told.calls k _ _ l0 t286 t288 t289 _ ?side1 ?side2 A5.out).mono ?_); (case side1 => repeat (first | exact (Kd.C_below HR0.out HB.out) | (with_reducible refine cA ?_ _) | (with_reducible refine cN ?_ _) | (with_reducible refine cD ?_))); (case side2 => exact HC0.out); rintro e w9 ⟨v290, rfl, ho0, hb⟩; refine ⟨_, rfl, ?_⟩; have HO291 := aM (Kd.R_lower ho0 (pZ bQ)); replace HB := tB HB hb; (try clear hb); (try clear hb2); (try clear hk); (try clear hi); (try clear ho0)))
 go_ret
 exact ⟨_, by first | rfl | (simp [errW_none, errW_some] <;> rfl) | (simp [*, errW_none, errW_some] <;> rfl), by (with_reducible repeat (first | apply rA | apply rN | apply rD)); exact HO291.out, bQ⟩

end Go.Proofs.Ytklhakfmegbobaa.X
