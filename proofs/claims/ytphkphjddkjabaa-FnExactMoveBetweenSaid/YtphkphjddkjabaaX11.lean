-- thin
-- short
-- compact
import Derived.Test.YtphkphjddkjabaaXA
import Derived.Test.YtphkphjddkjabaaX0
import Derived.Test.YtphkphjddkjabaaX10
namespace Go.Proofs.Ytphkphjddkjabaa.X
open Go.RowKit Go.Proofs.Ytphkphjddkjabaa.XW Go.Proofs.YtphkphjddkjabaaW.PrintWords Go.Proofs.YtphkphjddkjabaaW.PrintLast Go.Proofs.YtphkphjddkjabaaW.PrintMore
attribute [local go_sem] max2_int min2_int max_two min_two max_three min_three max_four min_four   -- for this text's walks alone
set_option linter.unusedVariables false
set_option linter.unusedSimpArgs false

def impl_meet.j0 : Nat → Bool → Int → Int → Int → Int → Int → Int → Int → Int → Option (Bool)
 | 0, _, _, _, _, _, _, _, _, _ => none
 | k + 1, x34, x303000, x303001, x304000, x304001, x305000, x305001, x306000, x306001 => if x34 = true then (some true) else ((impl_isOn.f x303000 x303001 x304000 x304001 x305000 x305001).bind fun t314 => (if t314 = true then (some true) else ((impl_isOn.f x303000 x303001 x304000 x304001 x306000 x306001).bind fun t315 => (if t315 = true then (some true) else ((impl_isOn.f x305000 x305001 x306000 x306001 x303000 x303001).bind fun t316 => (if t316 = true then (some true) else ((impl_isOn.f x305000 x305001 x306000 x306001 x304000 x304001).bind fun t317 => (some t317))))))))
def impl_meet.f (k : Nat) (a0_0 : Int) (a0_1 : Int) (a1_0 : Int) (a1_1 : Int) (a2_0 : Int) (a2_1 : Int) (a3_0 : Int) (a3_1 : Int) : Option (Bool) := (impl_turn.f a0_0 a0_1 a1_0 a1_1 a2_0 a2_1).bind fun t306 => ((impl_sign.f t306).bind fun t307 => ((impl_turn.f a0_0 a0_1 a1_0 a1_1 a3_0 a3_1).bind fun t308 => ((impl_sign.f t308).bind fun t309 => (if (wrap64 (t307 * t309)) < 0 then ((impl_turn.f a2_0 a2_1 a3_0 a3_1 a0_0 a0_1).bind fun t310 => ((impl_sign.f t310).bind fun t311 => ((impl_turn.f a2_0 a2_1 a3_0 a3_1 a1_0 a1_1).bind fun t312 => ((impl_sign.f t312).bind fun t313 => (impl_meet.j0 k (decide ((wrap64 (t311 * t313)) < 0)) a0_0 a0_1 a1_0 a1_1 a2_0 a2_1 a3_0 a3_1))))) else (impl_meet.j0 k false a0_0 a0_1 a1_0 a1_1 a2_0 a2_1 a3_0 a3_1)))))
theorem impl_meet.mono_l : ∀ k, (∀ y0 y1 y2 y3 y4 y5 y6 y7 y8, LeO (impl_meet.j0 k y0 y1 y2 y3 y4 y5 y6 y7 y8) (impl_meet.j0 (k + 1) y0 y1 y2 y3 y4 y5 y6 y7 y8))
 | 0 => fun _ _ _ _ _ _ _ _ _ r h => by simp [impl_meet.j0] at h
 | k + 1 => by
  have ih0 := impl_meet.mono_l k
  ·intro y0 y1 y2 y3 y4 y5 y6 y7 y8
   unfold impl_meet.j0
   repeat' first
   | (with_reducible exact ih0 _ _ _ _ _ _ _ _ _)
   | (with_reducible exact LeO.refl _)
   | (with_reducible exact LeO.none _)
   | (with_reducible refine LeO.ite ?_ ?_)
   | (with_reducible refine LeO.bind ?_ (fun _ => ?_))
   | exact ih0 _ _ _ _ _ _ _ _ _
   | exact LeO.none _
   | refine LeO.ite ?_ ?_
   | refine LeO.bind ?_ (fun _ => ?_)
theorem impl_meet.mono : ∀ a0 a1 a2 a3 a4 a5 a6 a7 k, LeO (impl_meet.f k a0 a1 a2 a3 a4 a5 a6 a7) (impl_meet.f (k + 1) a0 a1 a2 a3 a4 a5 a6 a7) := by
 intro a0 a1 a2 a3 a4 a5 a6 a7 k
 have ih0 := impl_meet.mono_l k
 unfold impl_meet.f
 repeat' first | (with_reducible exact ih0 _ _ _ _ _ _ _ _ _) | (with_reducible exact LeO.refl _) | (with_reducible exact LeO.none _) | (with_reducible refine LeO.ite ?_ ?_) | (with_reducible refine LeO.bind ?_ (fun _ => ?_)) | exact ih0 _ _ _ _ _ _ _ _ _ | exact LeO.none _ | refine LeO.ite ?_ ?_ | refine LeO.bind ?_ (fun _ => ?_)
def impl_meet.T1 : Bool × List (List Nat × List Nat) := (true, [([], []), ([], []), ([], []), ([0, 1, 2], [0, 1, 2]), ([3, 3], [3]), ([], []), ([], []), ([], []), ([5, 6, 7, 4], [5, 6, 7]), ([8, 8], [8]), ([4, 9], [4, 9]), ([10], [10]), ([11, 9], [11]), ([12], [12]), ([12], [12]), ([12], [12]), ([13, 14, 15, 12, 12], [12, 13, 14, 15]), ([16, 16, 12], [12, 16]), ([12], [12]), ([12], [12]), ([12], [12]), ([18, 19, 20, 17, 12], [12, 18, 19, 20]), ([21, 21, 12], [12, 21]), ([17, 22, 12], [12, 17, 22]), ([23, 12], [12, 23]), ([12, 24], [12, 24])])
def impl_meet.B1 : List Nat := [0, 0, 0, 7, 15, 0, 0, 0, 255, 511, 1023, 2047, 4095, 8191, 8191, 8191, 65535, 131071, 8191, 8191, 8191, 2097151, 4194303, 8388607, 16777215, 33554431]
theorem impl_meet.tab1 : rtab .any (opsOf Try.f34 1) = impl_meet.T1 := by kernel_rfl
theorem impl_meet.bits1 : waitsOk impl_meet.T1.2 impl_meet.B1 = true := by kernel_rfl
set_option maxHeartbeats 8000000 in
set_option maxRecDepth 100000 in
theorem impl_meet.calls (k : Nat) (a0_0 : Int) (a0_1 : Int) (a1_0 : Int) (a1_1 : Int) (a2_0 : Int) (a2_1 : Int) (a3_0 : Int) (a3_1 : Int) (r : Bool) (w : World) (h : impl_meet.f k a0_0 a0_1 a1_0 a1_1 a2_0 a2_1 a3_0 a3_1 = some r) :
  Calls Try.prog 34 #[.agg #[.int .i64 a0_0, .int .i64 a0_1], .agg #[.int .i64 a1_0, .int .i64 a1_1], .agg #[.int .i64 a2_0, .int .i64 a2_1], .agg #[.int .i64 a3_0, .int .i64 a3_1]] w fun e w' => e = .returned (.bool r) ∧ Below w.heap.size w w' := by
 have hu38 := Try.underlying38; have HB := aM (Below.refl w.heap.size w)
 unfold impl_meet.f at h; have H := h; clear h
 have HC5 := aM H; clear H
 go_enter Try.func34, Try.ntmps34
 go_upto_region 1 with (first | ((with_reducible refine gate_dst (N := 4) rfl ?_); refine bV 4 (cs := #[.int .i64 a0_0, .int .i64 a0_1]) (t := 38) rfl rfl (by first | (go_simp; done) | (go_simp; rfl)) ?_; intro gb302 hg w6 hbox hb; have BK302 := hbox; have GW302 := gZ HB hg; have GE302 := gZ HB hg; replace HB := tB HB hb; clear hb hbox hg) | ((with_reducible refine gate_dst (N := 5) rfl ?_); refine bV 5 (cs := #[.int .i64 a1_0, .int .i64 a1_1]) (t := 38) rfl rfl (by first | (go_simp; done) | (go_simp; rfl)) ?_; intro gb303 hg w7 hbox hb; have BK303 := hbox; have GW303 := gZ HB hg; have GE303 := gZ HB hg; have NB302_303 := nG BK302 hg; have NB303_302 := nH BK302 hg; replace BK302 := bB BK302 hb; replace HB := tB HB hb; clear hb hbox hg) | ((with_reducible refine gate_dst (N := 6) rfl ?_); refine bV 6 (cs := #[.int .i64 a2_0, .int .i64 a2_1]) (t := 38) rfl rfl (by first | (go_simp; done) | (go_simp; rfl)) ?_; intro gb304 hg w8 hbox hb; have BK304 := hbox; have GW304 := gZ HB hg; have GE304 := gZ HB hg; have NB302_304 := nG BK302 hg; have NB304_302 := nH BK302 hg; have NB303_304 := nG BK303 hg; have NB304_303 := nH BK303 hg; replace BK302 := bB BK302 hb; replace BK303 := bB BK303 hb; replace HB := tB HB hb; clear hb hbox hg) | ((with_reducible refine gate_dst (N := 7) rfl ?_); refine bV 7 (cs := #[.int .i64 a3_0, .int .i64 a3_1]) (t := 38) rfl rfl (by first | (go_simp; done) | (go_simp; rfl)) ?_; intro gb305 hg w9 hbox hb; have BK305 := hbox; have GW305 := gZ HB hg; have GE305 := gZ HB hg; have NB302_305 := nG BK302 hg; have NB305_302 := nH BK302 hg; have NB303_305 := nG BK303 hg; have NB305_303 := nH BK303 hg; have NB304_305 := nG BK304 hg; have NB305_304 := nH BK304 hg; replace BK302 := bB BK302 hb; replace BK303 := bB BK303 hb; replace BK304 := bB BK304 hb; replace HB := tB HB hb; clear hb hbox hg))
 (try simp only [Act.put, sI, sZ, sS])
 go_cut [34] (fun v34 wc => ∃ (kq : Nat) (x34_4 : Bool), v34 = .bool x34_4 ∧ Aside0 (impl_meet.j0 kq x34_4 a0_0 a0_1 a1_0 a1_1 a2_0 a2_1 a3_0 a3_1 = some r) ∧ Aside0 (kq ≤ k) ∧ Aside0 (wc.heap[gb302]? = some (.cells #[.int .i64 a0_0, .int .i64 a0_1] 38 (0, 0))) ∧ Aside0 (wc.heap[gb303]? = some (.cells #[.int .i64 a1_0, .int .i64 a1_1] 38 (0, 0))) ∧ Aside0 (wc.heap[gb304]? = some (.cells #[.int .i64 a2_0, .int .i64 a2_1] 38 (0, 0))) ∧ Aside0 (wc.heap[gb305]? = some (.cells #[.int .i64 a3_0, .int .i64 a3_1] 38 (0, 0))) ∧ Aside0 (Below w.heap.size w wc))
 case first =>
  have H := HC5.out; clear HC5; replace H := bS H; obtain ⟨t306, A10, H⟩ := H; replace H := bS H; obtain ⟨t307, A11, H⟩ := H; replace H := bS H; obtain ⟨t308, A12, H⟩ := H; replace H := bS H; obtain ⟨t309, A13, H⟩ := H
  by_cases c14 : (wrap64 (t307 * t309)) < 0
  ·rw [if_pos c14] at H; have c14b0 := dE c14; clear c14
   (first | rw [c14b0] | (simp only [i64_w, i32_w]; rw [c14b0]) | skip)
   replace H := bS H; obtain ⟨t310, A15, H⟩ := H; replace H := bS H; obtain ⟨t311, A16, H⟩ := H; replace H := bS H; obtain ⟨t312, A17, H⟩ := H; replace H := bS H; obtain ⟨t313, A18, H⟩ := H; have H' := aM H; clear H
   try go_wp2
   replace BK302 := aM (kD BK302.out); replace BK303 := aM (kD BK303.out); replace BK304 := aM (kD BK304.out); replace BK305 := aM (kD BK305.out); replace HB := aM (pD HB.out)
   refine start_ (n := 26) (S := fun w' => w'.cell? ⟨gb302, 0, none⟩ = some (.int .i64 a0_0) ∧ w'.cell? ⟨gb302, 1, none⟩ = some (.int .i64 a0_1) ∧ w'.cell? ⟨gb303, 0, none⟩ = some (.int .i64 a1_0) ∧ w'.cell? ⟨gb303, 1, none⟩ = some (.int .i64 a1_1) ∧ w'.cell? ⟨gb304, 0, none⟩ = some (.int .i64 a2_0) ∧ w'.cell? ⟨gb304, 1, none⟩ = some (.int .i64 a2_1) ∧ w'.cell? ⟨gb305, 0, none⟩ = some (.int .i64 a3_0) ∧ w'.cell? ⟨gb305, 1, none⟩ = some (.int .i64 a3_1)) (ds := []) (bA 26 0) kR rfl kR ⟨vZ0 BK302, vZ1 BK302, vZ0 BK303, vZ1 BK303, vZ0 BK304, vZ1 BK304, vZ0 BK305, vZ1 BK305⟩ (fun hHeld => ?_); refine with_tabW impl_meet.tab1 impl_meet.bits1 (fun HT_ HW_ => ?_)
   generalize w9.drew = w19 at BK302 BK303 BK304 BK305 HB hHeld ⊢
   refine tU 0 9 (bA 26 1) HT_ HW_ hHeld ?_ (hy := Or.inl ⟨by rfl, by rintro w' ⟨s0, s1, s2, s3, s4, s5, s6, s7⟩; go_simp; with_reducible rfl⟩)
   refine tU 1 10 (bA 26 3) HT_ HW_ hHeld ?_ (hy := Or.inl ⟨by rfl, by rintro w' ⟨s0, s1, s2, s3, s4, s5, s6, s7⟩; go_simp; with_reducible rfl⟩)
   refine tU 2 11 (bA 26 7) HT_ HW_ hHeld ?_ (hy := Or.inl ⟨by rfl, by rintro w' ⟨s0, s1, s2, s3, s4, s5, s6, s7⟩; go_simp; with_reducible rfl⟩)
   refine tU 5 14 (bA 26 39) HT_ HW_ hHeld ?_ (hy := Or.inl ⟨by rfl, by rintro w' ⟨s0, s1, s2, s3, s4, s5, s6, s7⟩; go_simp; with_reducible rfl⟩)
   refine tU 6 15 (bA 26 103) HT_ HW_ hHeld ?_ (hy := Or.inl ⟨by rfl, by rintro w' ⟨s0, s1, s2, s3, s4, s5, s6, s7⟩; go_simp; with_reducible rfl⟩)
   refine tU 7 16 (bA 26 231) HT_ HW_ hHeld ?_ (hy := Or.inl ⟨by rfl, by rintro w' ⟨s0, s1, s2, s3, s4, s5, s6, s7⟩; go_simp; with_reducible rfl⟩)
   refine oU 3 12 (bA 26 239) HT_ (fun K hK => ?_)
   refine goes_ Try.func32 kR rfl #[.agg #[.int .i64 a0_0, .int .i64 a0_1], .agg #[.int .i64 a1_0, .int .i64 a1_1], .agg #[.int .i64 a2_0, .int .i64 a2_1]] (by rfl) rfl rfl sQ ?_
   with_reducible refine (impl_turn.calls a0_0 a0_1 a1_0 a1_1 a2_0 a2_1 t306 _ A10.out).mono ?_
   rintro e w20 ⟨rfl, hb⟩; refine ⟨_, rfl, ?_⟩; replace BK302 := bB BK302 hb; replace BK303 := bB BK303 hb; replace BK304 := bB BK304 hb; replace BK305 := bB BK305 hb; replace HB := tB HB hb; (try clear hb); (try clear hb2); (try clear hk); (try clear hi)
   refine hK.out _ _ ⟨vZ0 BK302, vZ1 BK302, vZ0 BK303, vZ1 BK303, vZ0 BK304, vZ1 BK304, vZ0 BK305, vZ1 BK305⟩ (fun hHeld => ?_)
   clear hK K
   refine nU ?_
   refine oU 4 13 (bA 26 255) HT_ (fun K hK => ?_)
   refine goes_ Try.func48 kR rfl #[.int .i64 t306] (by rfl) rfl rfl sQ ?_
   with_reducible refine (impl_sign.calls t306 t307 _ A11.out).mono ?_
   rintro e w21 ⟨rfl, hb⟩; refine ⟨_, rfl, ?_⟩; replace BK302 := bB BK302 hb; replace BK303 := bB BK303 hb; replace BK304 := bB BK304 hb; replace BK305 := bB BK305 hb; replace HB := tB HB hb; (try clear hb); (try clear hb2); (try clear hk); (try clear hi)
   refine hK.out _ _ ⟨vZ0 BK302, vZ1 BK302, vZ0 BK303, vZ1 BK303, vZ0 BK304, vZ1 BK304, vZ0 BK305, vZ1 BK305⟩ (fun hHeld => ?_)
   clear hK K
   refine nU ?_
   refine oU 8 17 (bA 26 511) HT_ (fun K hK => ?_)
   refine goes_ Try.func32 kR rfl #[.agg #[.int .i64 a0_0, .int .i64 a0_1], .agg #[.int .i64 a1_0, .int .i64 a1_1], .agg #[.int .i64 a3_0, .int .i64 a3_1]] (by rfl) rfl rfl sQ ?_
   with_reducible refine (impl_turn.calls a0_0 a0_1 a1_0 a1_1 a3_0 a3_1 t308 _ A12.out).mono ?_
   rintro e w22 ⟨rfl, hb⟩; refine ⟨_, rfl, ?_⟩; replace BK302 := bB BK302 hb; replace BK303 := bB BK303 hb; replace BK304 := bB BK304 hb; replace BK305 := bB BK305 hb; replace HB := tB HB hb; (try clear hb); (try clear hb2); (try clear hk); (try clear hi)
   refine hK.out _ _ ⟨vZ0 BK302, vZ1 BK302, vZ0 BK303, vZ1 BK303, vZ0 BK304, vZ1 BK304, vZ0 BK305, vZ1 BK305⟩ (fun hHeld => ?_)
   clear hK K
   refine nU ?_
   refine oU 9 18 (bA 26 1023) HT_ (fun K hK => ?_)
   refine goes_ Try.func48 kR rfl #[.int .i64 t308] (by rfl) rfl rfl sQ ?_
   with_reducible refine (impl_sign.calls t308 t309 _ A13.out).mono ?_
   rintro e w23 ⟨rfl, hb⟩; refine ⟨_, rfl, ?_⟩; replace BK302 := bB BK302 hb; replace BK303 := bB BK303 hb; replace BK304 := bB BK304 hb; replace BK305 := bB BK305 hb; replace HB := tB HB hb; (try clear hb); (try clear hb2); (try clear hk); (try clear hi)
   refine hK.out _ _ ⟨vZ0 BK302, vZ1 BK302, vZ0 BK303, vZ1 BK303, vZ0 BK304, vZ1 BK304, vZ0 BK305, vZ1 BK305⟩ (fun hHeld => ?_)
   clear hK K
   refine nU ?_
   refine pU 10 19 (bA 26 2047) HT_ ?_; refine pU 11 20 (bA 26 4095) HT_ ?_; refine pU 12 21 (bA 26 8191) HT_ ?_
   refine tU 13 22 (bA 26 16383) HT_ HW_ hHeld ?_ (hy := Or.inl ⟨by rfl, by rintro w' ⟨s0, s1, s2, s3, s4, s5, s6, s7⟩; go_simp; with_reducible rfl⟩)
   refine tU 14 23 (bA 26 32767) HT_ HW_ hHeld ?_ (hy := Or.inl ⟨by rfl, by rintro w' ⟨s0, s1, s2, s3, s4, s5, s6, s7⟩; go_simp; with_reducible rfl⟩)
   refine tU 15 24 (bA 26 65535) HT_ HW_ hHeld ?_ (hy := Or.inl ⟨by rfl, by rintro w' ⟨s0, s1, s2, s3, s4, s5, s6, s7⟩; go_simp; with_reducible rfl⟩)
   refine tU 18 27 (bA 26 327679) HT_ HW_ hHeld ?_ (hy := Or.inl ⟨by rfl, by rintro w' ⟨s0, s1, s2, s3, s4, s5, s6, s7⟩; go_simp; with_reducible rfl⟩)
   refine tU 19 28 (bA 26 851967) HT_ HW_ hHeld ?_ (hy := Or.inl ⟨by rfl, by rintro w' ⟨s0, s1, s2, s3, s4, s5, s6, s7⟩; go_simp; with_reducible rfl⟩)
   refine tU 20 29 (bA 26 1900543) HT_ HW_ hHeld ?_ (hy := Or.inl ⟨by rfl, by rintro w' ⟨s0, s1, s2, s3, s4, s5, s6, s7⟩; go_simp; with_reducible rfl⟩)
   refine oU 16 25 (bA 26 1966079) HT_ (fun K hK => ?_)
   refine goes_ Try.func32 kR rfl #[.agg #[.int .i64 a2_0, .int .i64 a2_1], .agg #[.int .i64 a3_0, .int .i64 a3_1], .agg #[.int .i64 a0_0, .int .i64 a0_1]] (by rfl) rfl rfl sQ ?_
   with_reducible refine (impl_turn.calls a2_0 a2_1 a3_0 a3_1 a0_0 a0_1 t310 _ A15.out).mono ?_
   rintro e w24 ⟨rfl, hb⟩; refine ⟨_, rfl, ?_⟩; replace BK302 := bB BK302 hb; replace BK303 := bB BK303 hb; replace BK304 := bB BK304 hb; replace BK305 := bB BK305 hb; replace HB := tB HB hb; (try clear hb); (try clear hb2); (try clear hk); (try clear hi)
   refine hK.out _ _ ⟨vZ0 BK302, vZ1 BK302, vZ0 BK303, vZ1 BK303, vZ0 BK304, vZ1 BK304, vZ0 BK305, vZ1 BK305⟩ (fun hHeld => ?_)
   clear hK K
   refine nU ?_
   refine oU 17 26 (bA 26 2097151) HT_ (fun K hK => ?_)
   refine goes_ Try.func48 kR rfl #[.int .i64 t310] (by rfl) rfl rfl sQ ?_
   with_reducible refine (impl_sign.calls t310 t311 _ A16.out).mono ?_
   rintro e w25 ⟨rfl, hb⟩; refine ⟨_, rfl, ?_⟩; replace BK302 := bB BK302 hb; replace BK303 := bB BK303 hb; replace BK304 := bB BK304 hb; replace BK305 := bB BK305 hb; replace HB := tB HB hb; (try clear hb); (try clear hb2); (try clear hk); (try clear hi)
   refine hK.out _ _ ⟨vZ0 BK302, vZ1 BK302, vZ0 BK303, vZ1 BK303, vZ0 BK304, vZ1 BK304, vZ0 BK305, vZ1 BK305⟩ (fun hHeld => ?_)
   clear hK K
   refine nU ?_
   refine oU 21 30 (bA 26 4194303) HT_ (fun K hK => ?_)
   refine goes_ Try.func32 kR rfl #[.agg #[.int .i64 a2_0, .int .i64 a2_1], .agg #[.int .i64 a3_0, .int .i64 a3_1], .agg #[.int .i64 a1_0, .int .i64 a1_1]] (by rfl) rfl rfl sQ ?_
   with_reducible refine (impl_turn.calls a2_0 a2_1 a3_0 a3_1 a1_0 a1_1 t312 _ A17.out).mono ?_
   rintro e w26 ⟨rfl, hb⟩; refine ⟨_, rfl, ?_⟩; replace BK302 := bB BK302 hb; replace BK303 := bB BK303 hb; replace BK304 := bB BK304 hb; replace BK305 := bB BK305 hb; replace HB := tB HB hb; (try clear hb); (try clear hb2); (try clear hk); (try clear hi)
   refine hK.out _ _ ⟨vZ0 BK302, vZ1 BK302, vZ0 BK303, vZ1 BK303, vZ0 BK304, vZ1 BK304, vZ0 BK305, vZ1 BK305⟩ (fun hHeld => ?_)
   clear hK K
   refine nU ?_
   refine oU 22 31 (bA 26 8388607) HT_ (fun K hK => ?_)
   refine goes_ Try.func48 kR rfl #[.int .i64 t312] (by rfl) rfl rfl sQ ?_
   with_reducible refine (impl_sign.calls t312 t313 _ A18.out).mono ?_
   rintro e w27 ⟨rfl, hb⟩; refine ⟨_, rfl, ?_⟩; replace BK302 := bB BK302 hb; replace BK303 := bB BK303 hb; replace BK304 := bB BK304 hb; replace BK305 := bB BK305 hb; replace HB := tB HB hb; (try clear hb); (try clear hb2); (try clear hk); (try clear hi)
   refine hK.out _ _ ⟨vZ0 BK302, vZ1 BK302, vZ0 BK303, vZ1 BK303, vZ0 BK304, vZ1 BK304, vZ0 BK305, vZ1 BK305⟩ (fun hHeld => ?_)
   clear hK K
   refine nU ?_
   refine pU 23 32 (bA 26 16777215) HT_ ?_; refine pU 24 33 (bA 26 33554431) HT_ ?_; refine pU 25 34 (bA 26 67108863) HT_ ?_
   refine done_ (done_of HT_.out kR) ?_
   try go_wp2
   go_meet
   case rel => exact ⟨_, (decide ((wrap64 (t311 * t313)) < 0)), eQ, H', ⟨by first | omega | exact Nat.le_refl _⟩, ⟨gQ BK302⟩, ⟨gQ BK303⟩, ⟨gQ BK304⟩, ⟨gQ BK305⟩, ⟨bE⟩⟩
  ·rw [if_neg c14] at H; have c14b0 := decide_eq_false c14; clear c14
   (first | rw [c14b0] | (simp only [i64_w, i32_w]; rw [c14b0]) | skip)
   have H' := aM H; clear H
   try go_wp2
   replace BK302 := aM (kD BK302.out); replace BK303 := aM (kD BK303.out); replace BK304 := aM (kD BK304.out); replace BK305 := aM (kD BK305.out); replace HB := aM (pD HB.out)
   refine start_ (n := 26) (S := fun w' => w'.cell? ⟨gb302, 0, none⟩ = some (.int .i64 a0_0) ∧ w'.cell? ⟨gb302, 1, none⟩ = some (.int .i64 a0_1) ∧ w'.cell? ⟨gb303, 0, none⟩ = some (.int .i64 a1_0) ∧ w'.cell? ⟨gb303, 1, none⟩ = some (.int .i64 a1_1) ∧ w'.cell? ⟨gb304, 0, none⟩ = some (.int .i64 a2_0) ∧ w'.cell? ⟨gb304, 1, none⟩ = some (.int .i64 a2_1) ∧ w'.cell? ⟨gb305, 0, none⟩ = some (.int .i64 a3_0) ∧ w'.cell? ⟨gb305, 1, none⟩ = some (.int .i64 a3_1)) (ds := []) (bA 26 0) kR rfl kR ⟨vZ0 BK302, vZ1 BK302, vZ0 BK303, vZ1 BK303, vZ0 BK304, vZ1 BK304, vZ0 BK305, vZ1 BK305⟩ (fun hHeld => ?_); refine with_tabW impl_meet.tab1 impl_meet.bits1 (fun HT_ HW_ => ?_)
   generalize w9.drew = w28 at BK302 BK303 BK304 BK305 HB hHeld ⊢
   refine tU 0 9 (bA 26 1) HT_ HW_ hHeld ?_ (hy := Or.inl ⟨by rfl, by rintro w' ⟨s0, s1, s2, s3, s4, s5, s6, s7⟩; go_simp; with_reducible rfl⟩)
   refine tU 1 10 (bA 26 3) HT_ HW_ hHeld ?_ (hy := Or.inl ⟨by rfl, by rintro w' ⟨s0, s1, s2, s3, s4, s5, s6, s7⟩; go_simp; with_reducible rfl⟩)
   refine tU 2 11 (bA 26 7) HT_ HW_ hHeld ?_ (hy := Or.inl ⟨by rfl, by rintro w' ⟨s0, s1, s2, s3, s4, s5, s6, s7⟩; go_simp; with_reducible rfl⟩)
   refine tU 5 14 (bA 26 39) HT_ HW_ hHeld ?_ (hy := Or.inl ⟨by rfl, by rintro w' ⟨s0, s1, s2, s3, s4, s5, s6, s7⟩; go_simp; with_reducible rfl⟩)
   refine tU 6 15 (bA 26 103) HT_ HW_ hHeld ?_ (hy := Or.inl ⟨by rfl, by rintro w' ⟨s0, s1, s2, s3, s4, s5, s6, s7⟩; go_simp; with_reducible rfl⟩)
   refine tU 7 16 (bA 26 231) HT_ HW_ hHeld ?_ (hy := Or.inl ⟨by rfl, by rintro w' ⟨s0, s1, s2, s3, s4, s5, s6, s7⟩; go_simp; with_reducible rfl⟩)
   refine oU 3 12 (bA 26 239) HT_ (fun K hK => ?_)
   refine goes_ Try.func32 kR rfl #[.agg #[.int .i64 a0_0, .int .i64 a0_1], .agg #[.int .i64 a1_0, .int .i64 a1_1], .agg #[.int .i64 a2_0, .int .i64 a2_1]] (by rfl) rfl rfl sQ ?_
   with_reducible refine (impl_turn.calls a0_0 a0_1 a1_0 a1_1 a2_0 a2_1 t306 _ A10.out).mono ?_
   rintro e w29 ⟨rfl, hb⟩; refine ⟨_, rfl, ?_⟩; replace BK302 := bB BK302 hb; replace BK303 := bB BK303 hb; replace BK304 := bB BK304 hb; replace BK305 := bB BK305 hb; replace HB := tB HB hb; (try clear hb); (try clear hb2); (try clear hk); (try clear hi)
   refine hK.out _ _ ⟨vZ0 BK302, vZ1 BK302, vZ0 BK303, vZ1 BK303, vZ0 BK304, vZ1 BK304, vZ0 BK305, vZ1 BK305⟩ (fun hHeld => ?_)
   clear hK K
   refine nU ?_
   refine oU 4 13 (bA 26 255) HT_ (fun K hK => ?_)
   refine goes_ Try.func48 kR rfl #[.int .i64 t306] (by rfl) rfl rfl sQ ?_
   with_reducible refine (impl_sign.calls t306 t307 _ A11.out).mono ?_
   rintro e w30 ⟨rfl, hb⟩; refine ⟨_, rfl, ?_⟩; replace BK302 := bB BK302 hb; replace BK303 := bB BK303 hb; replace BK304 := bB BK304 hb; replace BK305 := bB BK305 hb; replace HB := tB HB hb; (try clear hb); (try clear hb2); (try clear hk); (try clear hi)
   refine hK.out _ _ ⟨vZ0 BK302, vZ1 BK302, vZ0 BK303, vZ1 BK303, vZ0 BK304, vZ1 BK304, vZ0 BK305, vZ1 BK305⟩ (fun hHeld => ?_)
   clear hK K
   refine nU ?_
   refine oU 8 17 (bA 26 511) HT_ (fun K hK => ?_)
   refine goes_ Try.func32 kR rfl #[.agg #[.int .i64 a0_0, .int .i64 a0_1], .agg #[.int .i64 a1_0, .int .i64 a1_1], .agg #[.int .i64 a3_0, .int .i64 a3_1]] (by rfl) rfl rfl sQ ?_
   with_reducible refine (impl_turn.calls a0_0 a0_1 a1_0 a1_1 a3_0 a3_1 t308 _ A12.out).mono ?_
   rintro e w31 ⟨rfl, hb⟩; refine ⟨_, rfl, ?_⟩; replace BK302 := bB BK302 hb; replace BK303 := bB BK303 hb; replace BK304 := bB BK304 hb; replace BK305 := bB BK305 hb; replace HB := tB HB hb; (try clear hb); (try clear hb2); (try clear hk); (try clear hi)
   refine hK.out _ _ ⟨vZ0 BK302, vZ1 BK302, vZ0 BK303, vZ1 BK303, vZ0 BK304, vZ1 BK304, vZ0 BK305, vZ1 BK305⟩ (fun hHeld => ?_)
   clear hK K
   refine nU ?_
   refine oU 9 18 (bA 26 1023) HT_ (fun K hK => ?_)
   refine goes_ Try.func48 kR rfl #[.int .i64 t308] (by rfl) rfl rfl sQ ?_
   with_reducible refine (impl_sign.calls t308 t309 _ A13.out).mono ?_
   rintro e w32 ⟨rfl, hb⟩; refine ⟨_, rfl, ?_⟩; replace BK302 := bB BK302 hb; replace BK303 := bB BK303 hb; replace BK304 := bB BK304 hb; replace BK305 := bB BK305 hb; replace HB := tB HB hb; (try clear hb); (try clear hb2); (try clear hk); (try clear hi)
   refine hK.out _ _ ⟨vZ0 BK302, vZ1 BK302, vZ0 BK303, vZ1 BK303, vZ0 BK304, vZ1 BK304, vZ0 BK305, vZ1 BK305⟩ (fun hHeld => ?_)
   clear hK K
   refine nU ?_
   refine pU 10 19 (bA 26 2047) HT_ ?_; refine pU 11 20 (bA 26 4095) HT_ ?_; refine pU 12 21 (bA 26 8191) HT_ ?_; refine pU 13 22 (bA 26 16383) HT_ ?_ (hy := Or.inr ⟨by rfl, rfl⟩)
   refine pU 14 23 (bA 26 32767) HT_ ?_ (hy := Or.inr ⟨by rfl, rfl⟩)
   refine pU 15 24 (bA 26 65535) HT_ ?_ (hy := Or.inr ⟨by rfl, rfl⟩)
   refine pU 16 25 (bA 26 131071) HT_ ?_ (hy := Or.inr ⟨by rfl, rfl⟩)
   refine pU 17 26 (bA 26 262143) HT_ ?_ (hy := Or.inr ⟨by rfl, rfl⟩)
   refine pU 18 27 (bA 26 524287) HT_ ?_ (hy := Or.inr ⟨by rfl, rfl⟩)
   refine pU 19 28 (bA 26 1048575) HT_ ?_ (hy := Or.inr ⟨by rfl, rfl⟩)
   refine pU 20 29 (bA 26 2097151) HT_ ?_ (hy := Or.inr ⟨by rfl, rfl⟩)
   refine pU 21 30 (bA 26 4194303) HT_ ?_ (hy := Or.inr ⟨by rfl, rfl⟩)
   refine pU 22 31 (bA 26 8388607) HT_ ?_ (hy := Or.inr ⟨by rfl, rfl⟩)
   refine pU 23 32 (bA 26 16777215) HT_ ?_ (hy := Or.inr ⟨by rfl, rfl⟩)
   refine pU 24 33 (bA 26 33554431) HT_ ?_ (hy := Or.inr ⟨by rfl, rfl⟩)
   refine pU 25 34 (bA 26 67108863) HT_ ?_
   refine done_ (done_of HT_.out kR) ?_
   try go_wp2
   go_meet
   case rel => exact ⟨_, (false), eQ, H', ⟨by first | omega | exact Nat.le_refl _⟩, ⟨gQ BK302⟩, ⟨gQ BK303⟩, ⟨gQ BK304⟩, ⟨gQ BK305⟩, ⟨bE⟩⟩
 case rest =>
  clear HC5; obtain ⟨kq, x34_4, rfl, HA, HJ4, BK302, BK303, BK304, BK305, HB⟩ := hcut
  cases kq with
  | zero => exact absurd HA.out (by simp [impl_meet.j0])
  | succ kj4 =>
   have H := HA.out; clear HA
   simp only [impl_meet.j0] at H
   by_cases c33 : x34_4 = true
   ·subst c33; replace H := iT H; obtain rfl := Option.some.inj H; go_wp2
    go_ret
    exact ⟨wQ, bE⟩
   ·replace c33 := Bool.eq_false_iff.mpr c33; subst c33; replace H := iF H; replace H := bS H; obtain ⟨t314, A34, H⟩ := H
    by_cases c35 : t314 = true
    ·subst c35; replace H := iT H; obtain rfl := Option.some.inj H; have hnb36 := NB302_303.out; have hnc36 := NB303_302.out; have hnb37 := NB302_304.out; have hnc37 := NB304_302.out; have hnb38 := NB302_305.out; have hnc38 := NB305_302.out; have hcz39_0 : wc.cell? ⟨gb302, 0, none⟩ = some (.int .i64 a0_0) := vZ0 BK302; have hcz39_1 : wc.cell? ⟨gb302, 1, none⟩ = some (.int .i64 a0_1) := vZ1 BK302; have hfz39_0 := kF BK302.out 0; have hfz39_1 := kF BK302.out 1; have hnb40 := NB303_304.out; have hnc40 := NB304_303.out; have hnb41 := NB303_305.out; have hnc41 := NB305_303.out; have hcz42_0 : wc.cell? ⟨gb303, 0, none⟩ = some (.int .i64 a1_0) := vZ0 BK303; have hcz42_1 : wc.cell? ⟨gb303, 1, none⟩ = some (.int .i64 a1_1) := vZ1 BK303; have hfz42_0 := kF BK303.out 0; have hfz42_1 := kF BK303.out 1; have hnb43 := NB304_305.out; have hnc43 := NB305_304.out; have hcz44_0 : wc.cell? ⟨gb304, 0, none⟩ = some (.int .i64 a2_0) := vZ0 BK304; have hcz44_1 : wc.cell? ⟨gb304, 1, none⟩ = some (.int .i64 a2_1) := vZ1 BK304; have hfz44_0 := kF BK304.out 0; have hfz44_1 := kF BK304.out 1
     go_wp2_with (first | ((with_reducible refine gC (f := 49) rfl ?_); refine goesL_ (some 38) rfl rfl Try.func49 kR rfl #[.agg #[.int .i64 a0_0, .int .i64 a0_1], .agg #[.int .i64 a1_0, .int .i64 a1_1], .agg #[.int .i64 a2_0, .int .i64 a2_1]] rfl sQ ?_; (with_reducible refine (impl_isOn.calls a0_0 a0_1 a1_0 a1_1 a2_0 a2_1 true _ A34.out).mono ?_); rintro e w45 ⟨rfl, hb⟩; refine ⟨_, rfl, ?_⟩; replace BK302 := bB BK302 hb; replace BK303 := bB BK303 hb; replace BK304 := bB BK304 hb; replace BK305 := bB BK305 hb; replace HB := tB HB hb; (try clear hb); (try clear hb2); (try clear hk); (try clear hi)))
     go_ret
     exact ⟨wQ, bE⟩
    ·replace c35 := Bool.eq_false_iff.mpr c35; subst c35; replace H := iF H; replace H := bS H; obtain ⟨t315, A46, H⟩ := H
     by_cases c47 : t315 = true
     ·subst c47; replace H := iT H; obtain rfl := Option.some.inj H; have hnb48 := NB302_303.out; have hnc48 := NB303_302.out; have hnb49 := NB302_304.out; have hnc49 := NB304_302.out; have hnb50 := NB302_305.out; have hnc50 := NB305_302.out; have hcz51_0 : wc.cell? ⟨gb302, 0, none⟩ = some (.int .i64 a0_0) := vZ0 BK302; have hcz51_1 : wc.cell? ⟨gb302, 1, none⟩ = some (.int .i64 a0_1) := vZ1 BK302; have hfz51_0 := kF BK302.out 0; have hfz51_1 := kF BK302.out 1; have hnb52 := NB303_304.out; have hnc52 := NB304_303.out; have hnb53 := NB303_305.out; have hnc53 := NB305_303.out; have hcz54_0 : wc.cell? ⟨gb303, 0, none⟩ = some (.int .i64 a1_0) := vZ0 BK303; have hcz54_1 : wc.cell? ⟨gb303, 1, none⟩ = some (.int .i64 a1_1) := vZ1 BK303; have hfz54_0 := kF BK303.out 0; have hfz54_1 := kF BK303.out 1; have hnb55 := NB304_305.out; have hnc55 := NB305_304.out; have hcz56_0 : wc.cell? ⟨gb304, 0, none⟩ = some (.int .i64 a2_0) := vZ0 BK304; have hcz56_1 : wc.cell? ⟨gb304, 1, none⟩ = some (.int .i64 a2_1) := vZ1 BK304; have hfz56_0 := kF BK304.out 0; have hfz56_1 := kF BK304.out 1
      go_wp2_with (first | ((with_reducible refine gC (f := 49) rfl ?_); refine goesL_ (some 38) rfl rfl Try.func49 kR rfl #[.agg #[.int .i64 a0_0, .int .i64 a0_1], .agg #[.int .i64 a1_0, .int .i64 a1_1], .agg #[.int .i64 a2_0, .int .i64 a2_1]] rfl sQ ?_; (with_reducible refine (impl_isOn.calls a0_0 a0_1 a1_0 a1_1 a2_0 a2_1 false _ A34.out).mono ?_); rintro e w57 ⟨rfl, hb⟩; refine ⟨_, rfl, ?_⟩; replace BK302 := bB BK302 hb; replace BK303 := bB BK303 hb; replace BK304 := bB BK304 hb; replace BK305 := bB BK305 hb; replace HB := tB HB hb; (try clear hb); (try clear hb2); (try clear hk); (try clear hi); have hcz58_0 := vZ0 BK302; have hcz58_1 := vZ1 BK302; have hfz58_0 := kF BK302.out 0; have hfz58_1 := kF BK302.out 1; have hcz59_0 := vZ0 BK303; have hcz59_1 := vZ1 BK303; have hfz59_0 := kF BK303.out 0; have hfz59_1 := kF BK303.out 1; have hcz60_0 := vZ0 BK305; have hcz60_1 := vZ1 BK305; have hfz60_0 := kF BK305.out 0; have hfz60_1 := kF BK305.out 1) | (go_at_call 49; (with_reducible refine (impl_isOn.calls a0_0 a0_1 a1_0 a1_1 a3_0 a3_1 true _ A46.out).mono ?_); rintro e w61 ⟨rfl, hb⟩; replace BK302 := bB BK302 hb; replace BK303 := bB BK303 hb; replace BK304 := bB BK304 hb; replace BK305 := bB BK305 hb; replace HB := tB HB hb; (try clear hb); (try clear hb2); (try clear hk); (try clear hi)))
      go_ret
      exact ⟨wQ, bE⟩
     ·replace c47 := Bool.eq_false_iff.mpr c47; subst c47; replace H := iF H; replace H := bS H; obtain ⟨t316, A62, H⟩ := H
      by_cases c63 : t316 = true
      ·subst c63; replace H := iT H; obtain rfl := Option.some.inj H; have hnb64 := NB302_303.out; have hnc64 := NB303_302.out; have hnb65 := NB302_304.out; have hnc65 := NB304_302.out; have hnb66 := NB302_305.out; have hnc66 := NB305_302.out; have hcz67_0 : wc.cell? ⟨gb302, 0, none⟩ = some (.int .i64 a0_0) := vZ0 BK302; have hcz67_1 : wc.cell? ⟨gb302, 1, none⟩ = some (.int .i64 a0_1) := vZ1 BK302; have hfz67_0 := kF BK302.out 0; have hfz67_1 := kF BK302.out 1; have hnb68 := NB303_304.out; have hnc68 := NB304_303.out; have hnb69 := NB303_305.out; have hnc69 := NB305_303.out; have hcz70_0 : wc.cell? ⟨gb303, 0, none⟩ = some (.int .i64 a1_0) := vZ0 BK303; have hcz70_1 : wc.cell? ⟨gb303, 1, none⟩ = some (.int .i64 a1_1) := vZ1 BK303; have hfz70_0 := kF BK303.out 0; have hfz70_1 := kF BK303.out 1; have hnb71 := NB304_305.out; have hnc71 := NB305_304.out; have hcz72_0 : wc.cell? ⟨gb304, 0, none⟩ = some (.int .i64 a2_0) := vZ0 BK304; have hcz72_1 : wc.cell? ⟨gb304, 1, none⟩ = some (.int .i64 a2_1) := vZ1 BK304; have hfz72_0 := kF BK304.out 0; have hfz72_1 := kF BK304.out 1
       go_wp2_with (first | ((with_reducible refine gC (f := 49) rfl ?_); refine goesL_ (some 38) rfl rfl Try.func49 kR rfl #[.agg #[.int .i64 a0_0, .int .i64 a0_1], .agg #[.int .i64 a1_0, .int .i64 a1_1], .agg #[.int .i64 a2_0, .int .i64 a2_1]] rfl sQ ?_; (with_reducible refine (impl_isOn.calls a0_0 a0_1 a1_0 a1_1 a2_0 a2_1 false _ A34.out).mono ?_); rintro e w73 ⟨rfl, hb⟩; refine ⟨_, rfl, ?_⟩; replace BK302 := bB BK302 hb; replace BK303 := bB BK303 hb; replace BK304 := bB BK304 hb; replace BK305 := bB BK305 hb; replace HB := tB HB hb; (try clear hb); (try clear hb2); (try clear hk); (try clear hi); have hcz74_0 := vZ0 BK302; have hcz74_1 := vZ1 BK302; have hfz74_0 := kF BK302.out 0; have hfz74_1 := kF BK302.out 1; have hcz75_0 := vZ0 BK303; have hcz75_1 := vZ1 BK303; have hfz75_0 := kF BK303.out 0; have hfz75_1 := kF BK303.out 1; have hcz76_0 := vZ0 BK305; have hcz76_1 := vZ1 BK305; have hfz76_0 := kF BK305.out 0; have hfz76_1 := kF BK305.out 1) | (go_at_call 49; (with_reducible refine (impl_isOn.calls a0_0 a0_1 a1_0 a1_1 a3_0 a3_1 false _ A46.out).mono ?_); rintro e w77 ⟨rfl, hb⟩; replace BK302 := bB BK302 hb; replace BK303 := bB BK303 hb; replace BK304 := bB BK304 hb; replace BK305 := bB BK305 hb; replace HB := tB HB hb; (try clear hb); (try clear hb2); (try clear hk); (try clear hi); have hcz78_0 := vZ0 BK304; have hcz78_1 := vZ1 BK304; have hfz78_0 := kF BK304.out 0; have hfz78_1 := kF BK304.out 1; have hcz79_0 := vZ0 BK305; have hcz79_1 := vZ1 BK305; have hfz79_0 := kF BK305.out 0; have hfz79_1 := kF BK305.out 1; have hcz80_0 := vZ0 BK302; have hcz80_1 := vZ1 BK302; have hfz80_0 := kF BK302.out 0; have hfz80_1 := kF BK302.out 1) | (go_at_call 49; (with_reducible refine (impl_isOn.calls a2_0 a2_1 a3_0 a3_1 a0_0 a0_1 true _ A62.out).mono ?_); rintro e w81 ⟨rfl, hb⟩; replace BK302 := bB BK302 hb; replace BK303 := bB BK303 hb; replace BK304 := bB BK304 hb; replace BK305 := bB BK305 hb; replace HB := tB HB hb; (try clear hb); (try clear hb2); (try clear hk); (try clear hi)))
       go_ret
       exact ⟨wQ, bE⟩
      ·replace c63 := Bool.eq_false_iff.mpr c63; subst c63; replace H := iF H; replace H := bS H; obtain ⟨t317, A82, H⟩ := H; obtain rfl := Option.some.inj H; have hnb83 := NB302_303.out; have hnc83 := NB303_302.out; have hnb84 := NB302_304.out; have hnc84 := NB304_302.out; have hnb85 := NB302_305.out; have hnc85 := NB305_302.out; have hcz86_0 : wc.cell? ⟨gb302, 0, none⟩ = some (.int .i64 a0_0) := vZ0 BK302; have hcz86_1 : wc.cell? ⟨gb302, 1, none⟩ = some (.int .i64 a0_1) := vZ1 BK302; have hfz86_0 := kF BK302.out 0; have hfz86_1 := kF BK302.out 1; have hnb87 := NB303_304.out; have hnc87 := NB304_303.out; have hnb88 := NB303_305.out; have hnc88 := NB305_303.out; have hcz89_0 : wc.cell? ⟨gb303, 0, none⟩ = some (.int .i64 a1_0) := vZ0 BK303; have hcz89_1 : wc.cell? ⟨gb303, 1, none⟩ = some (.int .i64 a1_1) := vZ1 BK303; have hfz89_0 := kF BK303.out 0; have hfz89_1 := kF BK303.out 1; have hnb90 := NB304_305.out; have hnc90 := NB305_304.out; have hcz91_0 : wc.cell? ⟨gb304, 0, none⟩ = some (.int .i64 a2_0) := vZ0 BK304; have hcz91_1 : wc.cell? ⟨gb304, 1, none⟩ = some (.int .i64 a2_1) := vZ1 BK304; have hfz91_0 := kF BK304.out 0; have hfz91_1 := kF BK304.out 1
       go_wp2_with (first | ((with_reducible refine gC (f := 49) rfl ?_); refine goesL_ (some 38) rfl rfl Try.func49 kR rfl #[.agg #[.int .i64 a0_0, .int .i64 a0_1], .agg #[.int .i64 a1_0, .int .i64 a1_1], .agg #[.int .i64 a2_0, .int .i64 a2_1]] rfl sQ ?_; (with_reducible refine (impl_isOn.calls a0_0 a0_1 a1_0 a1_1 a2_0 a2_1 false _ A34.out).mono ?_); rintro e w92 ⟨rfl, hb⟩; refine ⟨_, rfl, ?_⟩; replace BK302 := bB BK302 hb; replace BK303 := bB BK303 hb; replace BK304 := bB BK304 hb; replace BK305 := bB BK305 hb; replace HB := tB HB hb; (try clear hb); (try clear hb2); (try clear hk); (try clear hi); have hcz93_0 := vZ0 BK302; have hcz93_1 := vZ1 BK302; have hfz93_0 := kF BK302.out 0; have hfz93_1 := kF BK302.out 1; have hcz94_0 := vZ0 BK303; have hcz94_1 := vZ1 BK303; have hfz94_0 := kF BK303.out 0; have hfz94_1 := kF BK303.out 1; have hcz95_0 := vZ0 BK305; have hcz95_1 := vZ1 BK305; have hfz95_0 := kF BK305.out 0; have hfz95_1 := kF BK305.out 1) | (go_at_call 49; (with_reducible refine (impl_isOn.calls a0_0 a0_1 a1_0 a1_1 a3_0 a3_1 false _ A46.out).mono ?_); rintro e w96 ⟨rfl, hb⟩; replace BK302 := bB BK302 hb; replace BK303 := bB BK303 hb; replace BK304 := bB BK304 hb; replace BK305 := bB BK305 hb; replace HB := tB HB hb; (try clear hb); (try clear hb2); (try clear hk); (try clear hi); have hcz97_0 := vZ0 BK304; have hcz97_1 := vZ1 BK304; have hfz97_0 := kF BK304.out 0; have hfz97_1 := kF BK304.out 1; have hcz98_0 := vZ0 BK305; have hcz98_1 := vZ1 BK305; have hfz98_0 := kF BK305.out 0; have hfz98_1 := kF BK305.out 1; have hcz99_0 := vZ0 BK302; have hcz99_1 := vZ1 BK302; have hfz99_0 := kF BK302.out 0; have hfz99_1 := kF BK302.out 1) | (go_at_call 49; (with_reducible refine (impl_isOn.calls a2_0 a2_1 a3_0 a3_1 a0_0 a0_1 false _ A62.out).mono ?_); rintro e w100 ⟨rfl, hb⟩; replace BK302 := bB BK302 hb; replace BK303 := bB BK303 hb; replace BK304 := bB BK304 hb; replace BK305 := bB BK305 hb; replace HB := tB HB hb; (try clear hb); (try clear hb2); (try clear hk); (try clear hi); have hcz101_0 := vZ0 BK304; have hcz101_1 := vZ1 BK304; have hfz101_0 := kF BK304.out 0; have hfz101_1 := kF BK304.out 1; have hcz102_0 := vZ0 BK305; have hcz102_1 := vZ1 BK305; have hfz102_0 := kF BK305.out 0; have hfz102_1 := kF BK305.out 1; have hcz103_0 := vZ0 BK303; have hcz103_1 := vZ1 BK303; have hfz103_0 := kF BK303.out 0; have hfz103_1 := kF BK303.out 1) | (go_at_call 49; (with_reducible refine (impl_isOn.calls a2_0 a2_1 a3_0 a3_1 a1_0 a1_1 t317 _ A82.out).mono ?_); rintro e w104 ⟨rfl, hb⟩; replace BK302 := bB BK302 hb; replace BK303 := bB BK303 hb; replace BK304 := bB BK304 hb; replace BK305 := bB BK305 hb; replace HB := tB HB hb; (try clear hb); (try clear hb2); (try clear hk); (try clear hi)))
       go_ret
       exact ⟨wQ, bE⟩

end Go.Proofs.Ytphkphjddkjabaa.X
