-- thin
-- short
-- compact
import Derived.Test.YtklhakfmegbobaaXA
import Derived.Test.YtklhakfmegbobaaX0
import Derived.Test.YtklhakfmegbobaaX7
import Derived.Test.YtklhakfmegbobaaX10
namespace Go.Proofs.Ytklhakfmegbobaa.X
open Go.RowKit Go.Proofs.Ytklhakfmegbobaa.XW Go.Proofs.YtklhakfmegbobaaW.PrintWords Go.Proofs.YtklhakfmegbobaaW.PrintLast Go.Proofs.YtklhakfmegbobaaW.PrintMore
attribute [local go_sem] max2_int min2_int max_two min_two max_three min_three max_four min_four   -- for this text's walks alone
set_option linter.unusedVariables false
set_option linter.unusedSimpArgs false

def impl_isThree.f (k : Nat) (l0 : List (S_impl_Peg)) : Option (Bool) := if (l0.length : Int) = 3 then ((impl_IsPolygon.f k l0).bind fun t250 => (some t250)) else (some false)
theorem impl_isThree.mono : ∀ a0 k, LeO (impl_isThree.f k a0) (impl_isThree.f (k + 1) a0) := by
 intro a0 k
 unfold impl_isThree.f
 repeat' first | (with_reducible exact impl_IsPolygon.mono _ _) | (with_reducible exact LeO.refl _) | (with_reducible exact LeO.none _) | (with_reducible refine LeO.ite ?_ ?_) | (with_reducible refine LeO.bind ?_ (fun _ => ?_)) | exact impl_IsPolygon.mono _ _ | exact LeO.none _ | refine LeO.ite ?_ ?_ | refine LeO.bind ?_ (fun _ => ?_)
set_option maxHeartbeats 8000000 in
set_option maxRecDepth 100000 in
theorem impl_isThree.calls (k : Nat) (A0 : Option Addr) (c0 : Nat) (l0 : List (S_impl_Peg)) (r : Bool) (w : World) (hr0 : Kd.C kd_impl_Peg w A0 l0.length l0) (hc0 : l0.length ≤ c0) (h : impl_isThree.f k l0 = some r) :
  Calls Try.prog 58 #[.slice A0 l0.length c0] w fun e w' => e = .returned (.bool r) ∧ Below w.heap.size w w' := by
 have HR0 := aM hr0; have HC0 := aM hc0; clear hr0 hc0; have HB := aM (Below.refl w.heap.size w)
 unfold impl_isThree.f at h; have H := h; clear h
 by_cases c2 : (l0.length : Int) = 3
 ·rw [if_pos c2] at H; have c2b0 : ((l0.length : Int) == 3) = true := beq_iff_eq.mpr c2; have c2b1 : ((l0.length : Int) != 3) = false := bne_eq_false_iff_eq.mpr c2; clear c2; replace H := bS H; obtain ⟨t250, A3, H⟩ := H; obtain rfl := Option.some.inj H
  go_enter Try.func58, Try.ntmps58
  go_wp2_with (first | (go_at_call 65; (with_reducible refine (impl_IsPolygon.calls k _ _ l0 t250 _ ?side1 ?side2 A3.out).mono ?_); (case side1 => repeat (first | exact HR0.out | (with_reducible refine cA ?_ _) | (with_reducible refine cN ?_ _) | (with_reducible refine cD ?_))); (case side2 => exact HC0.out); rintro e w4 ⟨rfl, hb⟩; replace HB := tB HB hb; (try clear hb); (try clear hb2); (try clear hk); (try clear hi)))
  go_ret
  exact ⟨wQ, bQ⟩
 ·rw [if_neg c2] at H; have c2b0 : ((l0.length : Int) == 3) = false := beq_eq_false_iff_ne.mpr c2; have c2b1 : ((l0.length : Int) != 3) = true := bne_iff_ne.mpr c2; obtain rfl := Option.some.inj H
  go_enter Try.func58, Try.ntmps58
  go_wp2
  go_ret
  exact ⟨wQ, bQ⟩

-- NOT PRINTED: function 82 (impl_changed)

def impl_Peg_plus.f (a0_0 : Int) (a0_1 : Int) (a1_0 : Int) (a1_1 : Int) : Option (Int × Int) := some (wrap64 (a0_0 + a1_0), wrap64 (a0_1 + a1_1))
set_option maxHeartbeats 8000000 in
set_option maxRecDepth 100000 in
theorem impl_Peg_plus.calls (a0_0 : Int) (a0_1 : Int) (a1_0 : Int) (a1_1 : Int) (r1 : Int) (r2 : Int) (w : World) (h : impl_Peg_plus.f a0_0 a0_1 a1_0 a1_1 = some (r1, r2)) :
  Calls Try.prog 60 #[.agg #[.int .i64 a0_0, .int .i64 a0_1], .agg #[.int .i64 a1_0, .int .i64 a1_1]] w fun e w' => e = .returned (.agg #[.int .i64 r1, .int .i64 r2]) ∧ Below w.heap.size w w' := by
 have hu26 := Try.underlying26; have HB := aM (Below.refl w.heap.size w)
 unfold impl_Peg_plus.f at h; have H := h; clear h
 simp only [Option.some.injEq, Prod.mk.injEq] at H
 obtain ⟨rfl, rfl⟩ := H
 go_enter Try.func60, Try.ntmps60
 go_wp2_with (first | ((with_reducible refine gate_dst (N := 2) rfl ?_); refine bV 2 (cs := #[.int .i64 a0_0, .int .i64 a0_1]) (t := 26) rfl rfl (by first | (go_simp; done) | (go_simp; rfl)) ?_; intro gb251 hg w3 hbox hb; have BK251 := hbox; have GW251 := gZ HB hg; have GE251 := gZ HB hg; replace HB := tB HB hb; clear hb hbox hg) | ((with_reducible refine gate_dst (N := 3) rfl ?_); refine bV 3 (cs := #[.int .i64 a1_0, .int .i64 a1_1]) (t := 26) rfl rfl (by first | (go_simp; done) | (go_simp; rfl)) ?_; intro gb252 hg w4 hbox hb; have BK252 := hbox; have GW252 := gZ HB hg; have GE252 := gZ HB hg; have NB251_252 := nG BK251 hg; have NB252_251 := nH BK251 hg; replace BK251 := bB BK251 hb; replace HB := tB HB hb; clear hb hbox hg) | ((with_reducible refine gate_dst (N := 4) rfl ?_); refine bV 4 (cs := #[.int .i64 0, .int .i64 0]) (t := 26) rfl rfl (by first | (go_simp; done) | (go_simp; rfl)) ?_; intro gb253 hg w5 hbox hb; have BK253 := hbox; have GW253 := gZ HB hg; have GE253 := gZ HB hg; have NB251_253 := nG BK251 hg; have NB253_251 := nH BK251 hg; have NB252_253 := nG BK252 hg; have NB253_252 := nH BK252 hg; replace BK251 := bB BK251 hb; replace BK252 := bB BK252 hb; replace HB := tB HB hb; clear hb hbox hg; have hnb6 := NB251_252.out; have hnc6 := NB252_251.out; have hnb7 := NB251_253.out; have hnc7 := NB253_251.out; have hcz8_0 := vZ0 BK251; have hcz8_1 := vZ1 BK251; have hfz8_0 := kF BK251.out 0; have hfz8_1 := kF BK251.out 1; have hnb9 := NB252_253.out; have hnc9 := NB253_252.out; have hcz10_0 := vZ0 BK252; have hcz10_1 := vZ1 BK252; have hfz10_0 := kF BK252.out 0; have hfz10_1 := kF BK252.out 1; have hcz11_0 := vZ0 BK253; have hcz11_1 := vZ1 BK253; have hfz11_0 := kF BK253.out 0; have hfz11_1 := kF BK253.out 1))
 refine bodyPost_ret (results_cell_row rfl _ _ gb253 26 #[.int .i64 (wrap64 (a0_0 + a1_0)), .int .i64 (wrap64 (a0_1 + a1_1))] (0, 0) _ rfl (fQ BK253) Try.underlying26 rfl kR) rfl ?_
 exact ⟨wQ, bE⟩

def impl_GrowThree_1.f (a0_0 : Int) (a0_1 : Int) (l1_0 : List (S_impl_Peg)) (a2_0 : Int) : Option (Int × Int) := if 0 < (l1_0.length : Int) then ((impl_Peg_less.f a0_0 a0_1 ((rd_impl_Peg l1_0 0).f0) ((rd_impl_Peg l1_0 0).f1)).bind fun bt257 => ((impl_Peg_plus.f ((rd_impl_Peg l1_0 0).f0) ((rd_impl_Peg l1_0 0).f1) (wrap64 (a2_0 * bt257.1)) (wrap64 (a2_0 * bt257.2))).bind fun bt261 => (some (bt261.1, bt261.2)))) else (none)
def impl_GrowThree_1.T2 : Bool × List (List Nat × List Nat) := (true, [([], []), ([0], [0]), ([1], [1]), ([], []), ([], []), ([4], [4]), ([3, 5], [3, 5]), ([], []), ([], []), ([8], [8]), ([7, 9], [7, 9]), ([6, 10], [6, 10]), ([2, 11], [2, 11]), ([12, 12, 0, 1, 2, 3, 4, 5, 6, 7, 8, 9, 10, 11, 12], [12])])
def impl_GrowThree_1.B2 : List Nat := [0, 1, 3, 0, 0, 16, 56, 0, 0, 256, 896, 2040, 4095, 8191]
theorem impl_GrowThree_1.tab2 : rtab .any (opsOf Try.f84 2) = impl_GrowThree_1.T2 := by kernel_rfl
theorem impl_GrowThree_1.bits2 : waitsOk impl_GrowThree_1.T2.2 impl_GrowThree_1.B2 = true := by kernel_rfl
set_option maxHeartbeats 8000000 in
set_option maxRecDepth 100000 in
theorem impl_GrowThree_1.calls (a0_0 : Int) (a0_1 : Int) (gx1 : Nat) (A1_0 : Option Addr) (c1_0 : Nat) (l1_0 : List (S_impl_Peg)) (gx2 : Nat) (a2_0 : Int) (r1 : Int) (r2 : Int) (w : World) (hr1_0 : Kd.C kd_impl_Peg w A1_0 l1_0.length l1_0) (hc1_0 : l1_0.length ≤ c1_0) (hbx1 : w.heap[gx1]? = some (.cells #[.slice A1_0 l1_0.length c1_0] 29 (0, 0))) (hbx2 : w.heap[gx2]? = some (.cells #[.int .i64 a2_0] 3 (0, 0))) (h : impl_GrowThree_1.f a0_0 a0_1 l1_0 a2_0 = some (r1, r2)) :
  Calls Try.prog 84 #[.agg #[.int .i64 a0_0, .int .i64 a0_1], .pointer (some ⟨gx1, 0, none⟩), .pointer (some ⟨gx2, 0, none⟩)] w fun e w' => e = .returned (.agg #[.int .i64 r1, .int .i64 r2]) ∧ Below w.heap.size w w' := by
 have hu26 := Try.underlying26; have hu29 := Try.underlying29; have hu3 := Try.underlying3; have HR1_0 := aM hr1_0; have HC1_0 := aM hc1_0; clear hr1_0 hc1_0; have BK1 := aM hbx1; clear hbx1; have BK2 := aM hbx2; clear hbx2; have HB := aM (Below.refl w.heap.size w)
 unfold impl_GrowThree_1.f at h; have H := h; clear h
 replace H := iN H; obtain ⟨c4, H⟩ := H; have c4b0 := dE c4; have c4b1 : decide (0 < l1_0.length) = true := dE (by omega)
 clear c4; replace H := bS H; obtain ⟨⟨t257, t258⟩, A5, H⟩ := H; replace H := bS H; obtain ⟨⟨t261, t262⟩, A6, H⟩ := H
 simp only [Option.some.injEq, Prod.mk.injEq] at H
 obtain ⟨rfl, rfl⟩ := H
 go_enter Try.func84, Try.ntmps84
 try go_wp2_with (first | ((with_reducible refine gate_dst (N := 3) rfl ?_); refine bV 3 (cs := #[.int .i64 a0_0, .int .i64 a0_1]) (t := 26) rfl rfl (by first | (go_simp; done) | (go_simp; rfl)) ?_; intro gb254 hg w7 hbox hb; have BK254 := hbox; have GW254 := gZ HB hg; have GE254 := gZ HB hg; have NB1_254 := aM ((by rw [hg]; exact nN (blk_lt (g := gx1) (o := .cells #[.slice A1_0 l1_0.length c1_0] 29 (0, 0)) (gQ BK1)) : gx1 ≠ gb254)); have NB254_1 := aM ((by rw [hg]; exact Nat.ne_of_gt (blk_lt (g := gx1) (o := .cells #[.slice A1_0 l1_0.length c1_0] 29 (0, 0)) (gQ BK1)) : gb254 ≠ gx1)); have NB2_254 := aM ((by rw [hg]; exact nN (blk_lt (g := gx2) (o := .cells #[.int .i64 a2_0] 3 (0, 0)) (gQ BK2)) : gx2 ≠ gb254)); have NB254_2 := aM ((by rw [hg]; exact Nat.ne_of_gt (blk_lt (g := gx2) (o := .cells #[.int .i64 a2_0] 3 (0, 0)) (gQ BK2)) : gb254 ≠ gx2)); replace BK1 := aM (blk_below (g := gx1) (o := .cells #[.slice A1_0 l1_0.length c1_0] 29 (0, 0)) (gQ BK1) hb); replace BK2 := aM (blk_below (g := gx2) (o := .cells #[.int .i64 a2_0] 3 (0, 0)) (gQ BK2) hb); replace HB := tB HB hb; clear hb hbox hg) | ((with_reducible refine gate_dst (N := 4) rfl ?_); refine bV 4 (cs := #[.int .i64 0, .int .i64 0]) (t := 26) rfl rfl (by first | (go_simp; done) | (go_simp; rfl)) ?_; intro gb255 hg w8 hbox hb; have BK255 := hbox; have GW255 := gZ HB hg; have GE255 := gZ HB hg; have NB1_255 := aM ((by rw [hg]; exact nN (blk_lt (g := gx1) (o := .cells #[.slice A1_0 l1_0.length c1_0] 29 (0, 0)) (gQ BK1)) : gx1 ≠ gb255)); have NB255_1 := aM ((by rw [hg]; exact Nat.ne_of_gt (blk_lt (g := gx1) (o := .cells #[.slice A1_0 l1_0.length c1_0] 29 (0, 0)) (gQ BK1)) : gb255 ≠ gx1)); have NB2_255 := aM ((by rw [hg]; exact nN (blk_lt (g := gx2) (o := .cells #[.int .i64 a2_0] 3 (0, 0)) (gQ BK2)) : gx2 ≠ gb255)); have NB255_2 := aM ((by rw [hg]; exact Nat.ne_of_gt (blk_lt (g := gx2) (o := .cells #[.int .i64 a2_0] 3 (0, 0)) (gQ BK2)) : gb255 ≠ gx2)); have NB254_255 := nG BK254 hg; have NB255_254 := nH BK254 hg; replace BK1 := aM (blk_below (g := gx1) (o := .cells #[.slice A1_0 l1_0.length c1_0] 29 (0, 0)) (gQ BK1) hb); replace BK2 := aM (blk_below (g := gx2) (o := .cells #[.int .i64 a2_0] 3 (0, 0)) (gQ BK2) hb); replace BK254 := bB BK254 hb; replace HB := tB HB hb; clear hb hbox hg))
 replace BK1 := aM (kD BK1.out); replace BK2 := aM (kD BK2.out); replace BK254 := aM (kD BK254.out); replace BK255 := aM (kD BK255.out); replace HB := aM (pD HB.out); have p256 : 0 ≤ (0 : Int) := (by omega)
 have q256 : 0 < (l1_0.length : Int) := dT aQ; obtain ⟨ad256, e256, hx256_0, hx256_1⟩ := at_impl_Peg HR1_0.out 0 p256 q256; have hw256_1 := hx256_1
 (try rw [show ((0 : Int)).toNat = 0 from rfl] at hw256_1)
 (try rw [show 0 * 2 = 0 from rfl] at hw256_1)
 (try rw [Addr.add_zero'] at hw256_1)
 have hw256_0 := hx256_0
 (try rw [show ((0 : Int)).toNat = 0 from rfl] at hw256_0)
 (try rw [show 0 * 2 = 0 from rfl] at hw256_0)
 (try rw [Addr.add_zero'] at hw256_0)
 cases e256
 have qi256 : (0 < l1_0.length) = True := eq_true (by omega)
 (try rw [show ((0 : Int)).toNat = 0 from rfl] at hx256_0)
 (try rw [show 0 * 2 = 0 from rfl] at hx256_0)
 (try rw [Addr.add_zero'] at hx256_0)
 (try rw [show ((0 : Int)).toNat = 0 from rfl] at hx256_1)
 (try rw [show 0 * 2 = 0 from rfl] at hx256_1)
 (try rw [Addr.add_zero'] at hx256_1)
 replace hx256_0 := hC HB hx256_0; replace hx256_1 := hC HB hx256_1; replace p256 := eq_true p256; replace q256 := eq_true q256
 refine start_ (n := 7) (S := fun w' => w'.cell? ⟨gb254, 0, none⟩ = some (.int .i64 a0_0) ∧ w'.cell? ⟨gb254, 1, none⟩ = some (.int .i64 a0_1) ∧ w'.cell? ⟨gx1, 0, none⟩ = some (.slice (some ad256) l1_0.length c1_0) ∧ w'.cell? ad256 = some (.int .i64 ((rd_impl_Peg l1_0 0).f0)) ∧ w'.cell? ⟨ad256.block, ad256.off + 1, none⟩ = some (.int .i64 ((rd_impl_Peg l1_0 0).f1))) (ds := []) (bA 7 0) kR rfl kR ⟨vZ0 BK254, vZ1 BK254, vZ0 BK1, (hC HB hw256_0 :), (hC HB hw256_1 :)⟩ (fun hHeld => ?_)
 generalize w8.drew = w9 at BK1 BK2 BK254 BK255 HB hx256_0 hx256_1 hHeld ⊢
 refine take_ (i := 0) (N := some 6) (v := ?_) (a' := ?_) (bA 7 1) rfl rfl kR (fun _ _ _ h => h) (Or.inl ⟨by rfl, ?_⟩) hHeld ?_ ?_
 rotate_left
 ·rintro w' ⟨s0, s1, s2, s3, s4⟩
  go_simp
  with_reducible rfl
 rotate_left
 ·simp only [Act.put, sI, sZ, sS, i64_w, i32_w]
  rfl
 refine take_ (i := 1) (N := some 7) (v := ?_) (a' := ?_) (bA 7 3) rfl rfl kR (fun _ _ _ h => h) (Or.inl ⟨by rfl, ?_⟩) hHeld ?_ ?_
 rotate_left
 ·rintro w' ⟨s0, s1, s2, s3, s4⟩
  go_simp
  with_reducible rfl
 rotate_left
 ·simp only [Act.put, sI, sZ, sS, i64_w, i32_w]
  rfl
 refine pure_ (i := 2) (N := some 8) (v := ?_) (a' := ?_) (bA 7 7) rfl rfl kR (fun _ _ _ h => h) (Or.inl ⟨by rfl, ?_⟩) ?_ ?_
 rotate_left
 ·intro w'
  go_simp
  with_reducible rfl
 rotate_left
 ·simp only [Act.put, sI, sZ, sS, i64_w, i32_w]
  rfl
 refine take_ (i := 3) (N := some 9) (v := ?_) (a' := ?_) (bA 7 15) rfl rfl kR (fun _ _ _ h => h) (Or.inl ⟨by rfl, ?_⟩) hHeld ?_ ?_
 rotate_left
 ·rintro w' ⟨s0, s1, s2, s3, s4⟩
  go_simp
  with_reducible rfl
 rotate_left
 ·simp only [Act.put, sI, sZ, sS, i64_w, i32_w]
  rfl
 refine join_ (σ := Nat) 1 (bA 7 63) (fun s_ => [(10, .agg #[.int .i64 t257, .int .i64 t258]), (5, .pointer (some ⟨s_, 0, none⟩))]) (fun s_ w' => (w'.cell? ⟨gb254, 0, none⟩ = some (.int .i64 a0_0) ∧ w'.cell? ⟨gb254, 1, none⟩ = some (.int .i64 a0_1) ∧ w'.cell? ⟨gx1, 0, none⟩ = some (.slice (some ad256) l1_0.length c1_0) ∧ w'.cell? ad256 = some (.int .i64 ((rd_impl_Peg l1_0 0).f0)) ∧ w'.cell? ⟨ad256.block, ad256.off + 1, none⟩ = some (.int .i64 ((rd_impl_Peg l1_0 0).f1))) ∧ (w'.heap[gx1]? = some (.cells #[.slice (some ad256) l1_0.length c1_0] 29 (0, 0))) ∧ (w'.heap[gx2]? = some (.cells #[.int .i64 a2_0] 3 (0, 0))) ∧ (w'.heap[gb254]? = some (.cells #[.int .i64 a0_0, .int .i64 a0_1] 26 (0, 0))) ∧ (w'.heap[gb255]? = some (.cells #[.int .i64 0, .int .i64 0] 26 (0, 0))) ∧ (w'.heap[s_]? = some (.cells #[.int .i64 0, .int .i64 0] 26 (0, 0))) ∧ (w.heap.size ≤ s_) ∧ (w.heap.size ≤ s_) ∧ (gx1 ≠ s_) ∧ (s_ ≠ gx1) ∧ (gx2 ≠ s_) ∧ (s_ ≠ gx2) ∧ (gb254 ≠ s_) ∧ (s_ ≠ gb254) ∧ (gb255 ≠ s_) ∧ (s_ ≠ gb255) ∧ (Below w.heap.size w w')) ?_ ?_
 rotate_left
 ·intro hCont
  refine two_ (i := 4) (j := 5) (Ni := some 10) (Nj := some 5) (bA 7 31) (bA 7 47) rfl rfl rfl rfl kR (by decide) (by decide) (fun K hK => ?_) (fun K hK => ?_)
  ·skip
   refine goes_ Try.func85 kR rfl #[.agg #[.int .i64 a0_0, .int .i64 a0_1], .agg #[.int .i64 ((rd_impl_Peg l1_0 0).f0), .int .i64 ((rd_impl_Peg l1_0 0).f1)]] (by rfl) rfl rfl sQ ?_
   with_reducible refine (impl_Peg_less.calls a0_0 a0_1 ((rd_impl_Peg l1_0 0).f0) ((rd_impl_Peg l1_0 0).f1) t257 t258 _ A5.out).mono ?_
   rintro e w10 ⟨rfl, hb⟩; refine ⟨_, rfl, ?_⟩; replace BK1 := aM (blk_below (g := gx1) (o := .cells #[.slice (some ad256) l1_0.length c1_0] 29 (0, 0)) (gQ BK1) hb); replace BK2 := aM (blk_below (g := gx2) (o := .cells #[.int .i64 a2_0] 3 (0, 0)) (gQ BK2) hb); replace BK254 := bB BK254 hb; replace BK255 := bB BK255 hb; replace HB := tB HB hb; (try clear hb); (try clear hb2); (try clear hk); (try clear hi)
   refine hK.out _ _ ⟨vZ0 BK254, vZ1 BK254, vZ0 BK1, (hC HB hw256_0 :), (hC HB hw256_1 :)⟩ (fun hHeld => ?_)
   clear hK K
   refine nU ?_
   refine one_ (i := 5) (N := some 5) (bA 7 63) rfl rfl kR (by decide) (fun K hK => ?_)
   refine box_step ?hg (N := 5) ?hd (cs := #[.int .i64 0, .int .i64 0]) (t := 26) ?hr ?_; (case hd => rfl); (case hg => rfl); (case hr => first | (go_simp; done) | (go_simp; rfl))
   intro gb259 hg w11 hbox hb
   have BK259 := aM (hbox); have GW259 := gZ HB hg; have GE259 := gZ HB hg; have NB1_259 := aM ((by rw [hg]; exact nN (blk_lt (g := gx1) (o := .cells #[.slice (some ad256) l1_0.length c1_0] 29 (0, 0)) (gQ BK1)) : gx1 ≠ gb259)); have NB259_1 := aM ((by rw [hg]; exact Nat.ne_of_gt (blk_lt (g := gx1) (o := .cells #[.slice (some ad256) l1_0.length c1_0] 29 (0, 0)) (gQ BK1)) : gb259 ≠ gx1)); have NB2_259 := aM ((by rw [hg]; exact nN (blk_lt (g := gx2) (o := .cells #[.int .i64 a2_0] 3 (0, 0)) (gQ BK2)) : gx2 ≠ gb259)); have NB259_2 := aM ((by rw [hg]; exact Nat.ne_of_gt (blk_lt (g := gx2) (o := .cells #[.int .i64 a2_0] 3 (0, 0)) (gQ BK2)) : gb259 ≠ gx2)); have NB254_259 := nG BK254 hg; have NB259_254 := nH BK254 hg; have NB255_259 := nG BK255 hg; have NB259_255 := nH BK255 hg; replace BK1 := aM (blk_below (g := gx1) (o := .cells #[.slice (some ad256) l1_0.length c1_0] 29 (0, 0)) (gQ BK1) hb); replace BK2 := aM (blk_below (g := gx2) (o := .cells #[.int .i64 a2_0] 3 (0, 0)) (gQ BK2) hb); replace BK254 := bB BK254 hb; replace BK255 := bB BK255 hb; replace HB := tB HB hb
   clear hb hbox hg
   refine hK.out _ _ ⟨vZ0 BK254, vZ1 BK254, vZ0 BK1, (hC HB hw256_0 :), (hC HB hw256_1 :)⟩ (fun hHeld => ?_)
   clear hK K
   refine nU ?_
   exact norm_ (by simp only [putAll, Act.put, sI, sZ, sS]) (hCont (gb259) _ ⟨hHeld, (gQ BK1), (gQ BK2), (gQ BK254), (gQ BK255), (gQ BK259), GW259.out, GE259.out, NB1_259.out, NB259_1.out, NB2_259.out, NB259_2.out, NB254_259.out, NB259_254.out, NB255_259.out, NB259_255.out, bE⟩)
  ·skip
   refine box_step ?hg (N := 5) ?hd (cs := #[.int .i64 0, .int .i64 0]) (t := 26) ?hr ?_; (case hd => rfl); (case hg => rfl); (case hr => first | (go_simp; done) | (go_simp; rfl))
   intro gb259 hg w10 hbox hb
   have BK259 := aM (hbox); have GW259 := gZ HB hg; have GE259 := gZ HB hg; have NB1_259 := aM ((by rw [hg]; exact nN (blk_lt (g := gx1) (o := .cells #[.slice (some ad256) l1_0.length c1_0] 29 (0, 0)) (gQ BK1)) : gx1 ≠ gb259)); have NB259_1 := aM ((by rw [hg]; exact Nat.ne_of_gt (blk_lt (g := gx1) (o := .cells #[.slice (some ad256) l1_0.length c1_0] 29 (0, 0)) (gQ BK1)) : gb259 ≠ gx1)); have NB2_259 := aM ((by rw [hg]; exact nN (blk_lt (g := gx2) (o := .cells #[.int .i64 a2_0] 3 (0, 0)) (gQ BK2)) : gx2 ≠ gb259)); have NB259_2 := aM ((by rw [hg]; exact Nat.ne_of_gt (blk_lt (g := gx2) (o := .cells #[.int .i64 a2_0] 3 (0, 0)) (gQ BK2)) : gb259 ≠ gx2)); have NB254_259 := nG BK254 hg; have NB259_254 := nH BK254 hg; have NB255_259 := nG BK255 hg; have NB259_255 := nH BK255 hg; replace BK1 := aM (blk_below (g := gx1) (o := .cells #[.slice (some ad256) l1_0.length c1_0] 29 (0, 0)) (gQ BK1) hb); replace BK2 := aM (blk_below (g := gx2) (o := .cells #[.int .i64 a2_0] 3 (0, 0)) (gQ BK2) hb); replace BK254 := bB BK254 hb; replace BK255 := bB BK255 hb; replace HB := tB HB hb
   clear hb hbox hg
   refine hK.out _ _ ⟨vZ0 BK254, vZ1 BK254, vZ0 BK1, (hC HB hw256_0 :), (hC HB hw256_1 :)⟩ (fun hHeld => ?_)
   clear hK K
   refine nU ?_
   refine one_ (i := 4) (N := some 10) (bA 7 63) rfl rfl kR (by decide) (fun K hK => ?_)
   refine goes_ Try.func85 kR rfl #[.agg #[.int .i64 a0_0, .int .i64 a0_1], .agg #[.int .i64 ((rd_impl_Peg l1_0 0).f0), .int .i64 ((rd_impl_Peg l1_0 0).f1)]] (by rfl) rfl rfl sQ ?_
   with_reducible refine (impl_Peg_less.calls a0_0 a0_1 ((rd_impl_Peg l1_0 0).f0) ((rd_impl_Peg l1_0 0).f1) t257 t258 _ A5.out).mono ?_
   rintro e w11 ⟨rfl, hb⟩; refine ⟨_, rfl, ?_⟩; replace BK1 := aM (blk_below (g := gx1) (o := .cells #[.slice (some ad256) l1_0.length c1_0] 29 (0, 0)) (gQ BK1) hb); replace BK2 := aM (blk_below (g := gx2) (o := .cells #[.int .i64 a2_0] 3 (0, 0)) (gQ BK2) hb); replace BK254 := bB BK254 hb; replace BK255 := bB BK255 hb; replace BK259 := bB BK259 hb; replace HB := tB HB hb; (try clear hb); (try clear hb2); (try clear hk); (try clear hi)
   refine hK.out _ _ ⟨vZ0 BK254, vZ1 BK254, vZ0 BK1, (hC HB hw256_0 :), (hC HB hw256_1 :)⟩ (fun hHeld => ?_)
   clear hK K
   refine nU ?_
   exact norm_ (by simp only [putAll, Act.put, sI, sZ, sS]) (hCont (gb259) _ ⟨hHeld, (gQ BK1), (gQ BK2), (gQ BK254), (gQ BK255), (gQ BK259), GW259.out, GE259.out, NB1_259.out, NB259_1.out, NB2_259.out, NB259_2.out, NB254_259.out, NB259_254.out, NB255_259.out, NB259_255.out, bE⟩)
 rintro gb259 w12 ⟨hS_, h0_, h1_, h2_, h3_, h4_, h5_, h6_, h7_, h8_, h9_, h10_, h11_, h12_, h13_, h14_, h15_⟩; have n0_ : Aside0 (w12.heap[gx1]? = some (.cells #[.slice (some ad256) l1_0.length c1_0] 29 (0, 0))) := ⟨h0_⟩; have n1_ : Aside0 (w12.heap[gx2]? = some (.cells #[.int .i64 a2_0] 3 (0, 0))) := ⟨h1_⟩; have n2_ : Aside0 (w12.heap[gb254]? = some (.cells #[.int .i64 a0_0, .int .i64 a0_1] 26 (0, 0))) := ⟨h2_⟩; have n3_ : Aside0 (w12.heap[gb255]? = some (.cells #[.int .i64 0, .int .i64 0] 26 (0, 0))) := ⟨h3_⟩; have n4_ : Aside0 (w12.heap[gb259]? = some (.cells #[.int .i64 0, .int .i64 0] 26 (0, 0))) := ⟨h4_⟩; have n5_ : Aside0 (w.heap.size ≤ gb259) := ⟨h5_⟩; have n6_ : Aside0 (w.heap.size ≤ gb259) := ⟨h6_⟩; have n7_ : Aside0 (gx1 ≠ gb259) := ⟨h7_⟩; have n8_ : Aside0 (gb259 ≠ gx1) := ⟨h8_⟩; have n9_ : Aside0 (gx2 ≠ gb259) := ⟨h9_⟩; have n10_ : Aside0 (gb259 ≠ gx2) := ⟨h10_⟩; have n11_ : Aside0 (gb254 ≠ gb259) := ⟨h11_⟩; have n12_ : Aside0 (gb259 ≠ gb254) := ⟨h12_⟩; have n13_ : Aside0 (gb255 ≠ gb259) := ⟨h13_⟩; have n14_ : Aside0 (gb259 ≠ gb255) := ⟨h14_⟩; have n15_ : Aside0 (Below w.heap.size w w12) := ⟨h15_⟩; clear BK1; clear BK2; clear BK254; clear BK255; clear HB; clear h0_ h1_ h2_ h3_ h4_ h5_ h6_ h7_ h8_ h9_ h10_ h11_ h12_ h13_ h14_ h15_; have BK1 := n0_; have BK2 := n1_; have BK254 := n2_; have BK255 := n3_; have BK259 := n4_; have GW259 := n5_; have GE259 := n6_; have NB1_259 := n7_; have NB259_1 := n8_; have NB2_259 := n9_; have NB259_2 := n10_; have NB254_259 := n11_; have NB259_254 := n12_; have NB255_259 := n13_; have NB259_255 := n14_; have HB := n15_; clear n0_ n1_ n2_ n3_ n4_ n5_ n6_ n7_ n8_ n9_ n10_ n11_ n12_ n13_ n14_ n15_; have hHeld : w12.cell? ⟨gb254, 0, none⟩ = some (.int .i64 a0_0) ∧ w12.cell? ⟨gb254, 1, none⟩ = some (.int .i64 a0_1) ∧ w12.cell? ⟨gx1, 0, none⟩ = some (.slice (some ad256) l1_0.length c1_0) ∧ w12.cell? ad256 = some (.int .i64 ((rd_impl_Peg l1_0 0).f0)) ∧ w12.cell? ⟨ad256.block, ad256.off + 1, none⟩ = some (.int .i64 ((rd_impl_Peg l1_0 0).f1)) := hS_
 refine norm_ (a' := ?_) ?_ ?_
 rotate_left
 ·simp only [putAll, Act.put, sI, sZ, sS]
  rfl
 refine one_ (i := 6) (N := none) (bA 7 127) rfl rfl kR (by decide) (fun K hK => ?_)
 have hs13 : w12.cell? ⟨gb259, 0, none⟩ = some (.int .i64 0) := vZ0 BK259; have hfs13 := kF BK259.out 0; have hns13_0 := NB1_259.out; have hns13_1 := NB2_259.out; have hns13_2 := NB254_259.out; have hns13_3 := NB255_259.out; have hms13_0 := NB259_1.out; have hms13_1 := NB259_2.out; have hms13_2 := NB259_254.out; have hms13_3 := NB259_255.out; have hs14 : w12.cell? ⟨gb259, 1, none⟩ = some (.int .i64 0) := vZ1 BK259; have hfs14 := kF BK259.out 1; have hns14_0 := NB1_259.out; have hns14_1 := NB2_259.out; have hns14_2 := NB254_259.out; have hns14_3 := NB255_259.out; have hms14_0 := NB259_1.out; have hms14_1 := NB259_2.out; have hms14_2 := NB259_254.out; have hms14_3 := NB259_255.out
 refine skip_ (w1 := ?_) (by rfl) rfl ?_ ?_
 rotate_left
 ·go_simp
  rfl
 refine hK.out _ _ ⟨((cell_far (p := ⟨gb259, _, none⟩) NB254_259.out _).trans (((cell_far (p := ⟨gb259, _, none⟩) NB254_259.out _).trans (hHeld.1)))), ((cell_far (p := ⟨gb259, _, none⟩) NB254_259.out _).trans (((cell_far (p := ⟨gb259, _, none⟩) NB254_259.out _).trans (hHeld.2.1)))), ((cell_far (p := ⟨gb259, _, none⟩) NB1_259.out _).trans (((cell_far (p := ⟨gb259, _, none⟩) NB1_259.out _).trans (hHeld.2.2.1)))), ((cell_far (p := ⟨gb259, _, none⟩) (by first | exact nN (nL (by have := wB _ _ hw256_0; first | rwa [add_block] at this | exact this) GW259.out) | (rw [add_block]; exact nN (nL (by have := wB _ _ hw256_0; first | rwa [add_block] at this | exact this) GW259.out)) | (show (Addr.add _ _).block ≠ _; rw [add_block]; exact nN (nL (by have := wB _ _ hw256_0; first | rwa [add_block] at this | exact this) GW259.out)) | (dsimp only; exact nN (nL (by have := wB _ _ hw256_0; first | rwa [add_block] at this | exact this) GW259.out))) _).trans (((cell_far (p := ⟨gb259, _, none⟩) (by first | exact nN (nL (by have := wB _ _ hw256_0; first | rwa [add_block] at this | exact this) GW259.out) | (rw [add_block]; exact nN (nL (by have := wB _ _ hw256_0; first | rwa [add_block] at this | exact this) GW259.out)) | (show (Addr.add _ _).block ≠ _; rw [add_block]; exact nN (nL (by have := wB _ _ hw256_0; first | rwa [add_block] at this | exact this) GW259.out)) | (dsimp only; exact nN (nL (by have := wB _ _ hw256_0; first | rwa [add_block] at this | exact this) GW259.out))) _).trans (hHeld.2.2.2.1)))), ((cell_far (p := ⟨gb259, _, none⟩) (by first | exact nN (nL (by have := wB _ _ hw256_1; first | rwa [add_block] at this | exact this) GW259.out) | (rw [add_block]; exact nN (nL (by have := wB _ _ hw256_1; first | rwa [add_block] at this | exact this) GW259.out)) | (show (Addr.add _ _).block ≠ _; rw [add_block]; exact nN (nL (by have := wB _ _ hw256_1; first | rwa [add_block] at this | exact this) GW259.out)) | (dsimp only; exact nN (nL (by have := wB _ _ hw256_1; first | rwa [add_block] at this | exact this) GW259.out))) _).trans (((cell_far (p := ⟨gb259, _, none⟩) (by first | exact nN (nL (by have := wB _ _ hw256_1; first | rwa [add_block] at this | exact this) GW259.out) | (rw [add_block]; exact nN (nL (by have := wB _ _ hw256_1; first | rwa [add_block] at this | exact this) GW259.out)) | (show (Addr.add _ _).block ≠ _; rw [add_block]; exact nN (nL (by have := wB _ _ hw256_1; first | rwa [add_block] at this | exact this) GW259.out)) | (dsimp only; exact nN (nL (by have := wB _ _ hw256_1; first | rwa [add_block] at this | exact this) GW259.out))) _).trans (hHeld.2.2.2.2))))⟩ (fun hHeld => ?_)
 clear hK K
 refine done_ kR ?_
 try go_wp2
 have n0_ : Aside0 (((w12.setCell ⟨gb259, 0, none⟩ (.int .i64 t257)).setCell ⟨gb259, 1, none⟩ (.int .i64 t258)).heap[gx1]? = some (.cells #[.slice (some ad256) l1_0.length c1_0] 29 (0, 0))) := ⟨fQ BK1⟩; have n1_ : Aside0 (((w12.setCell ⟨gb259, 0, none⟩ (.int .i64 t257)).setCell ⟨gb259, 1, none⟩ (.int .i64 t258)).heap[gx2]? = some (.cells #[.int .i64 a2_0] 3 (0, 0))) := ⟨fQ BK2⟩; have n2_ : Aside0 (((w12.setCell ⟨gb259, 0, none⟩ (.int .i64 t257)).setCell ⟨gb259, 1, none⟩ (.int .i64 t258)).heap[gb254]? = some (.cells #[.int .i64 a0_0, .int .i64 a0_1] 26 (0, 0))) := ⟨fQ BK254⟩; have n3_ : Aside0 (((w12.setCell ⟨gb259, 0, none⟩ (.int .i64 t257)).setCell ⟨gb259, 1, none⟩ (.int .i64 t258)).heap[gb255]? = some (.cells #[.int .i64 0, .int .i64 0] 26 (0, 0))) := ⟨fQ BK255⟩; have n4_ : Aside0 (((w12.setCell ⟨gb259, 0, none⟩ (.int .i64 t257)).setCell ⟨gb259, 1, none⟩ (.int .i64 t258)).heap[gb259]? = some (.cells #[.int .i64 t257, .int .i64 t258] 26 (0, 0))) := ⟨fQ BK259⟩; have n5_ : Aside0 (Below w.heap.size w ((w12.setCell ⟨gb259, 0, none⟩ (.int .i64 t257)).setCell ⟨gb259, 1, none⟩ (.int .i64 t258))) := ⟨bE⟩; (try clear BK1); (try clear BK2); (try clear BK254); (try clear BK255); (try clear BK259); (try clear HB)
 generalize ((w12.setCell ⟨gb259, 0, none⟩ (.int .i64 t257)).setCell ⟨gb259, 1, none⟩ (.int .i64 t258)) = w15 at n0_ n1_ n2_ n3_ n4_ n5_ ⊢
 have BK1 := n0_; have BK2 := n1_; have BK254 := n2_; have BK255 := n3_; have BK259 := n4_; have HB := n5_; clear n0_ n1_ n2_ n3_ n4_ n5_; replace BK1 := aM (kD BK1.out); replace BK2 := aM (kD BK2.out); replace BK254 := aM (kD BK254.out); replace BK255 := aM (kD BK255.out); replace BK259 := aM (kD BK259.out); replace HB := aM (pD HB.out); have p260 : 0 ≤ (0 : Int) := (by omega)
 have q260 : 0 < (l1_0.length : Int) := dT aQ; obtain ⟨ad260, e260, hx260_0, hx260_1⟩ := at_impl_Peg HR1_0.out 0 p260 q260; have hw260_1 := hx260_1
 (try rw [show ((0 : Int)).toNat = 0 from rfl] at hw260_1)
 (try rw [show 0 * 2 = 0 from rfl] at hw260_1)
 (try rw [Addr.add_zero'] at hw260_1)
 have hw260_0 := hx260_0
 (try rw [show ((0 : Int)).toNat = 0 from rfl] at hw260_0)
 (try rw [show 0 * 2 = 0 from rfl] at hw260_0)
 (try rw [Addr.add_zero'] at hw260_0)
 obtain rfl : ad256 = ad260 := (by injection e260)
 have qi260 : (0 < l1_0.length) = True := eq_true (by omega)
 (try rw [show ((0 : Int)).toNat = 0 from rfl] at hx260_0)
 (try rw [show 0 * 2 = 0 from rfl] at hx260_0)
 (try rw [Addr.add_zero'] at hx260_0)
 (try rw [show ((0 : Int)).toNat = 0 from rfl] at hx260_1)
 (try rw [show 0 * 2 = 0 from rfl] at hx260_1)
 (try rw [Addr.add_zero'] at hx260_1)
 replace hx260_0 := hC HB hx260_0; replace hx260_1 := hC HB hx260_1; replace p260 := eq_true p260; replace q260 := eq_true q260
 refine start_ (n := 14) (S := fun w' => w'.cell? ⟨gx1, 0, none⟩ = some (.slice (some ad256) l1_0.length c1_0) ∧ w'.cell? ⟨gx2, 0, none⟩ = some (.int .i64 a2_0) ∧ w'.cell? ⟨gb259, 0, none⟩ = some (.int .i64 t257) ∧ w'.cell? ⟨gb259, 1, none⟩ = some (.int .i64 t258) ∧ w'.cell? ad256 = some (.int .i64 ((rd_impl_Peg l1_0 0).f0)) ∧ w'.cell? ⟨ad256.block, ad256.off + 1, none⟩ = some (.int .i64 ((rd_impl_Peg l1_0 0).f1))) (ds := []) (bA 14 0) kR rfl kR ⟨vZ0 BK1, vZ0 BK2, vZ0 BK259, vZ1 BK259, (hC HB hw260_0 :), (hC HB hw260_1 :)⟩ (fun hHeld => ?_); refine with_tabW impl_GrowThree_1.tab2 impl_GrowThree_1.bits2 (fun HT_ HW_ => ?_)
 generalize w15.drew = w16 at BK1 BK2 BK254 BK255 BK259 HB hx260_0 hx260_1 hHeld ⊢
 refine pU 4 15 (bA 14 16) HT_ ?_; refine pU 8 19 (bA 14 272) HT_ ?_
 refine tU 0 11 (bA 14 273) HT_ HW_ hHeld ?_ (hy := Or.inl ⟨by rfl, by rintro w' ⟨s0, s1, s2, s3, s4, s5⟩; go_simp; with_reducible rfl⟩)
 refine pU 1 12 (bA 14 275) HT_ ?_
 refine tU 2 13 (bA 14 279) HT_ HW_ hHeld ?_ (hy := Or.inl ⟨by rfl, by rintro w' ⟨s0, s1, s2, s3, s4, s5⟩; go_simp; with_reducible rfl⟩)
 refine tU 3 14 (bA 14 287) HT_ HW_ hHeld ?_ (hy := Or.inl ⟨by rfl, by rintro w' ⟨s0, s1, s2, s3, s4, s5⟩; go_simp; with_reducible rfl⟩)
 refine tU 5 16 (bA 14 319) HT_ HW_ hHeld ?_ (hy := Or.inl ⟨by rfl, by rintro w' ⟨s0, s1, s2, s3, s4, s5⟩; go_simp; with_reducible rfl⟩)
 refine pU 6 17 (bA 14 383) HT_ ?_
 refine tU 7 18 (bA 14 511) HT_ HW_ hHeld ?_ (hy := Or.inl ⟨by rfl, by rintro w' ⟨s0, s1, s2, s3, s4, s5⟩; go_simp; with_reducible rfl⟩)
 refine tU 9 20 (bA 14 1023) HT_ HW_ hHeld ?_ (hy := Or.inl ⟨by rfl, by rintro w' ⟨s0, s1, s2, s3, s4, s5⟩; go_simp; with_reducible rfl⟩)
 refine pU 10 21 (bA 14 2047) HT_ ?_; refine pU 11 22 (bA 14 4095) HT_ ?_
 refine oU 12 23 (bA 14 8191) HT_ (fun K hK => ?_)
 refine goes_ Try.func60 kR rfl #[.agg #[.int .i64 ((rd_impl_Peg l1_0 0).f0), .int .i64 ((rd_impl_Peg l1_0 0).f1)], .agg #[.int .i64 (wrap64 (a2_0 * t257)), .int .i64 (wrap64 (a2_0 * t258))]] (by rfl) rfl rfl sQ ?_
 with_reducible refine (impl_Peg_plus.calls ((rd_impl_Peg l1_0 0).f0) ((rd_impl_Peg l1_0 0).f1) (wrap64 (a2_0 * t257)) (wrap64 (a2_0 * t258)) t261 t262 _ A6.out).mono ?_
 rintro e w17 ⟨rfl, hb⟩; refine ⟨_, rfl, ?_⟩; replace BK1 := aM (blk_below (g := gx1) (o := .cells #[.slice (some ad256) l1_0.length c1_0] 29 (0, 0)) (gQ BK1) hb); replace BK2 := aM (blk_below (g := gx2) (o := .cells #[.int .i64 a2_0] 3 (0, 0)) (gQ BK2) hb); replace BK254 := bB BK254 hb; replace BK255 := bB BK255 hb; replace BK259 := bB BK259 hb; replace HB := tB HB hb; (try clear hb); (try clear hb2); (try clear hk); (try clear hi)
 refine hK.out _ _ ⟨vZ0 BK1, vZ0 BK2, vZ0 BK259, vZ1 BK259, (hC HB hw260_0 :), (hC HB hw260_1 :)⟩ (fun hHeld => ?_)
 clear hK K
 refine nU ?_
 refine one_ (i := 13) (N := none) (bA 14 16383) rfl rfl (one_of HT_.out kR) (by decide) (fun K hK => ?_)
 have hs18 : w17.cell? ⟨gb255, 0, none⟩ = some (.int .i64 0) := vZ0 BK255; have hfs18 := kF BK255.out 0; have hns18_0 := NB1_255.out; have hns18_1 := NB2_255.out; have hns18_2 := NB254_255.out; have hns18_4 := NB259_255.out; have hms18_0 := NB255_1.out; have hms18_1 := NB255_2.out; have hms18_2 := NB255_254.out; have hms18_4 := NB255_259.out; have hs19 : w17.cell? ⟨gb255, 1, none⟩ = some (.int .i64 0) := vZ1 BK255; have hfs19 := kF BK255.out 1; have hns19_0 := NB1_255.out; have hns19_1 := NB2_255.out; have hns19_2 := NB254_255.out; have hns19_4 := NB259_255.out; have hms19_0 := NB255_1.out; have hms19_1 := NB255_2.out; have hms19_2 := NB255_254.out; have hms19_4 := NB255_259.out
 refine skip_ (w1 := ?_) (by rfl) rfl ?_ ?_
 rotate_left
 ·go_simp
  rfl
 refine hK.out _ _ ⟨((cell_far (p := ⟨gb255, _, none⟩) NB1_255.out _).trans (((cell_far (p := ⟨gb255, _, none⟩) NB1_255.out _).trans (hHeld.1)))), ((cell_far (p := ⟨gb255, _, none⟩) NB2_255.out _).trans (((cell_far (p := ⟨gb255, _, none⟩) NB2_255.out _).trans (hHeld.2.1)))), ((cell_far (p := ⟨gb255, _, none⟩) NB259_255.out _).trans (((cell_far (p := ⟨gb255, _, none⟩) NB259_255.out _).trans (hHeld.2.2.1)))), ((cell_far (p := ⟨gb255, _, none⟩) NB259_255.out _).trans (((cell_far (p := ⟨gb255, _, none⟩) NB259_255.out _).trans (hHeld.2.2.2.1)))), ((cell_far (p := ⟨gb255, _, none⟩) (by first | exact nN (nL (by have := wB _ _ hw260_0; first | rwa [add_block] at this | exact this) GW255.out) | (rw [add_block]; exact nN (nL (by have := wB _ _ hw260_0; first | rwa [add_block] at this | exact this) GW255.out)) | (show (Addr.add _ _).block ≠ _; rw [add_block]; exact nN (nL (by have := wB _ _ hw260_0; first | rwa [add_block] at this | exact this) GW255.out)) | (dsimp only; exact nN (nL (by have := wB _ _ hw260_0; first | rwa [add_block] at this | exact this) GW255.out))) _).trans (((cell_far (p := ⟨gb255, _, none⟩) (by first | exact nN (nL (by have := wB _ _ hw260_0; first | rwa [add_block] at this | exact this) GW255.out) | (rw [add_block]; exact nN (nL (by have := wB _ _ hw260_0; first | rwa [add_block] at this | exact this) GW255.out)) | (show (Addr.add _ _).block ≠ _; rw [add_block]; exact nN (nL (by have := wB _ _ hw260_0; first | rwa [add_block] at this | exact this) GW255.out)) | (dsimp only; exact nN (nL (by have := wB _ _ hw260_0; first | rwa [add_block] at this | exact this) GW255.out))) _).trans (hHeld.2.2.2.2.1)))), ((cell_far (p := ⟨gb255, _, none⟩) (by first | exact nN (nL (by have := wB _ _ hw260_1; first | rwa [add_block] at this | exact this) GW255.out) | (rw [add_block]; exact nN (nL (by have := wB _ _ hw260_1; first | rwa [add_block] at this | exact this) GW255.out)) | (show (Addr.add _ _).block ≠ _; rw [add_block]; exact nN (nL (by have := wB _ _ hw260_1; first | rwa [add_block] at this | exact this) GW255.out)) | (dsimp only; exact nN (nL (by have := wB _ _ hw260_1; first | rwa [add_block] at this | exact this) GW255.out))) _).trans (((cell_far (p := ⟨gb255, _, none⟩) (by first | exact nN (nL (by have := wB _ _ hw260_1; first | rwa [add_block] at this | exact this) GW255.out) | (rw [add_block]; exact nN (nL (by have := wB _ _ hw260_1; first | rwa [add_block] at this | exact this) GW255.out)) | (show (Addr.add _ _).block ≠ _; rw [add_block]; exact nN (nL (by have := wB _ _ hw260_1; first | rwa [add_block] at this | exact this) GW255.out)) | (dsimp only; exact nN (nL (by have := wB _ _ hw260_1; first | rwa [add_block] at this | exact this) GW255.out))) _).trans (hHeld.2.2.2.2.2))))⟩ (fun hHeld => ?_)
 clear hK K
 refine done_ (done_of HT_.out kR) ?_
 try go_wp2
 refine bodyPost_ret (results_cell_row rfl _ _ gb255 26 #[.int .i64 t261, .int .i64 t262] (0, 0) _ rfl (fQ BK255) Try.underlying26 rfl kR) rfl ?_
 exact ⟨wQ, bE⟩
end Go.Proofs.Ytklhakfmegbobaa.X
