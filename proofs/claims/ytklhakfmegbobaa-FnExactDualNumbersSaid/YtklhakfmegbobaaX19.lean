-- thin
-- short
-- compact
import Derived.Test.YtklhakfmegbobaaXA
import Derived.Test.YtklhakfmegbobaaX0
import Derived.Test.YtklhakfmegbobaaX9
import Derived.Test.YtklhakfmegbobaaX11
import Derived.Test.YtklhakfmegbobaaX18
namespace Go.Proofs.Ytklhakfmegbobaa.X
open Go.RowKit Go.Proofs.Ytklhakfmegbobaa.XW Go.Proofs.YtklhakfmegbobaaW.PrintWords Go.Proofs.YtklhakfmegbobaaW.PrintLast Go.Proofs.YtklhakfmegbobaaW.PrintMore
attribute [local go_sem] max2_int min2_int max_two min_two max_three min_three max_four min_four   -- for this text's walks alone
set_option linter.unusedVariables false
set_option linter.unusedSimpArgs false

def impl_divisor.l0 : Nat → Int → Int → Option (Int)
 | 0, _, _ => none
 | k + 1, x0, x1 => if x1 = 0 then ((impl_size.f x0).bind fun t408 => (some t408)) else (impl_divisor.l0 k x1 (Int.tmod x0 x1))
def impl_divisor.f (k : Nat) (a0 : Int) (a1 : Int) : Option (Int) := impl_divisor.l0 k a0 a1
theorem impl_divisor.mono_l : ∀ k, (∀ y0 y1, LeO (impl_divisor.l0 k y0 y1) (impl_divisor.l0 (k + 1) y0 y1))
 | 0 => fun _ _ r h => by simp [impl_divisor.l0] at h
 | k + 1 => by
  have ih0 := impl_divisor.mono_l k
  ·intro y0 y1
   unfold impl_divisor.l0
   repeat' first
   | (with_reducible exact ih0 _ _)
   | (with_reducible exact LeO.refl _)
   | (with_reducible exact LeO.none _)
   | (with_reducible refine LeO.ite ?_ ?_)
   | (with_reducible refine LeO.bind ?_ (fun _ => ?_))
   | exact ih0 _ _
   | exact LeO.none _
   | refine LeO.ite ?_ ?_
   | refine LeO.bind ?_ (fun _ => ?_)
theorem impl_divisor.mono : ∀ a0 a1 k, LeO (impl_divisor.f k a0 a1) (impl_divisor.f (k + 1) a0 a1) := by
 intro a0 a1 k
 have ih0 := impl_divisor.mono_l k
 unfold impl_divisor.f
 repeat' first | (with_reducible exact ih0 _ _) | (with_reducible exact LeO.refl _) | (with_reducible exact LeO.none _) | (with_reducible refine LeO.ite ?_ ?_) | (with_reducible refine LeO.bind ?_ (fun _ => ?_)) | exact ih0 _ _ | exact LeO.none _ | refine LeO.ite ?_ ?_ | refine LeO.bind ?_ (fun _ => ?_)
set_option maxHeartbeats 8000000 in
set_option maxRecDepth 100000 in
theorem impl_divisor.calls (k : Nat) (a0 : Int) (a1 : Int) (r : Int) (w : World) (h : impl_divisor.f k a0 a1 = some r) :
  Calls Try.prog 144 #[.int .i64 a0, .int .i64 a1] w fun e w' => e = .returned (.int .i64 r) ∧ Below w.heap.size w w' := by
 have HB := aM (Below.refl w.heap.size w)
 unfold impl_divisor.f at h; have H := h; clear h
 have H' := aM H; clear H
 go_enter Try.func144, Try.ntmps144
 go_wp2
 repeat (go_quiet (fail); try go_wp2)
 go_loopg [0, 1] k (fun kq v0 v1 w' => ∃ (x0_1 : Int) (x1_1 : Int), v0 = .int .i64 x0_1 ∧ v1 = .int .i64 x1_1 ∧ Aside0 (impl_divisor.l0 kq x0_1 x1_1 = some r) ∧ Aside0 (kq ≤ k) ∧ Aside0 (Below w.heap.size w w'))
 case atStart => exact ⟨(a0), (a1), eQ, eQ, H', ⟨Nat.le_refl _⟩, ⟨bQ⟩⟩
 case round =>
  clear H'; obtain ⟨x0_1, x1_1, rfl, rfl, HA, HK1, HB⟩ := hrel
  cases gk with
  | zero => exact absurd HA.out (by simp [impl_divisor.l0])
  | succ k1 =>
   have H := HA.out; clear HA
   simp only [impl_divisor.l0] at H
   by_cases c3 : x1_1 = 0
   ·rw [if_pos c3] at H; have c3b0 : (x1_1 == 0) = true := beq_iff_eq.mpr c3; have c3b1 : (x1_1 != 0) = false := bne_eq_false_iff_eq.mpr c3; clear c3; replace H := bS H; obtain ⟨t408, A4, H⟩ := H; obtain rfl := Option.some.inj H
    go_wp2_with (first | (go_at_call 126; (with_reducible refine (impl_size.calls x0_1 t408 _ A4.out).mono ?_); rintro e w5 ⟨rfl, hb⟩; replace HB := tB HB hb; (try clear hb); (try clear hb2); (try clear hk); (try clear hi)))
    repeat (go_quiet (first | (go_at_call 126; (with_reducible refine (impl_size.calls x0_1 t408 _ A4.out).mono ?_); rintro e w5 ⟨rfl, hb⟩; have n0_ := tB HB hb; clear HB; have HB := n0_; clear n0_; (try clear hb); (try clear hb2); (try clear hk); (try clear hi))); try go_wp2_with (first | (go_at_call 126; (with_reducible refine (impl_size.calls x0_1 t408 _ A4.out).mono ?_); rintro e w5 ⟨rfl, hb⟩; have n0_ := tB HB hb; clear HB; have HB := n0_; clear n0_; (try clear hb); (try clear hb2); (try clear hk); (try clear hi))))
    go_ret
    exact ⟨wQ, bQ⟩
   ·rw [if_neg c3] at H; have c3b0 : (x1_1 == 0) = false := beq_eq_false_iff_ne.mpr c3; have c3b1 : (x1_1 != 0) = true := bne_iff_ne.mpr c3; have H' := aM H; clear H; go_wp2
    repeat (go_quiet (fail); try go_wp2)
    go_roundg k1
    case measure => have := HK1.out; omega
    case rel => exact ⟨(x1_1), (Int.tmod x0_1 x1_1), eQ, eQ, H', ⟨by have := HK1.out; omega⟩, ⟨bQ⟩⟩

def impl_steps.f (k : Nat) (a0_0 : Int) (a0_1 : Int) (a1_0 : Int) (a1_1 : Int) : Option (Int) := (impl_divisor.f k (wrap64 (a0_0 - a1_0)) (wrap64 (a0_1 - a1_1))).bind fun t411 => (some t411)
theorem impl_steps.mono : ∀ a0 a1 a2 a3 k, LeO (impl_steps.f k a0 a1 a2 a3) (impl_steps.f (k + 1) a0 a1 a2 a3) := by
 intro a0 a1 a2 a3 k
 unfold impl_steps.f
 repeat' first | (with_reducible exact impl_divisor.mono _ _ _) | (with_reducible exact LeO.refl _) | (with_reducible exact LeO.none _) | (with_reducible refine LeO.ite ?_ ?_) | (with_reducible refine LeO.bind ?_ (fun _ => ?_)) | exact impl_divisor.mono _ _ _ | exact LeO.none _ | refine LeO.ite ?_ ?_ | refine LeO.bind ?_ (fun _ => ?_)
set_option maxHeartbeats 8000000 in
set_option maxRecDepth 100000 in
theorem impl_steps.calls (k : Nat) (a0_0 : Int) (a0_1 : Int) (a1_0 : Int) (a1_1 : Int) (r : Int) (w : World) (h : impl_steps.f k a0_0 a0_1 a1_0 a1_1 = some r) :
  Calls Try.prog 135 #[.agg #[.int .i64 a0_0, .int .i64 a0_1], .agg #[.int .i64 a1_0, .int .i64 a1_1]] w fun e w' => e = .returned (.int .i64 r) ∧ Below w.heap.size w w' := by
 have hu26 := Try.underlying26; have HB := aM (Below.refl w.heap.size w)
 unfold impl_steps.f at h; have H := h; clear h
 replace H := bS H; obtain ⟨t411, A3, H⟩ := H; obtain rfl := Option.some.inj H
 go_enter Try.func135, Try.ntmps135
 go_wp2_with (first | ((with_reducible refine gate_dst (N := 2) rfl ?_); refine bV 2 (cs := #[.int .i64 a0_0, .int .i64 a0_1]) (t := 26) rfl rfl (by first | (go_simp; done) | (go_simp; rfl)) ?_; intro gb409 hg w4 hbox hb; have BK409 := hbox; have GW409 := gZ HB hg; have GE409 := gZ HB hg; replace HB := tB HB hb; clear hb hbox hg) | ((with_reducible refine gate_dst (N := 3) rfl ?_); refine bV 3 (cs := #[.int .i64 a1_0, .int .i64 a1_1]) (t := 26) rfl rfl (by first | (go_simp; done) | (go_simp; rfl)) ?_; intro gb410 hg w5 hbox hb; have BK410 := hbox; have GW410 := gZ HB hg; have GE410 := gZ HB hg; have NB409_410 := nG BK409 hg; have NB410_409 := nH BK409 hg; replace BK409 := bB BK409 hb; replace HB := tB HB hb; clear hb hbox hg; have hnb6 := NB409_410.out; have hnc6 := NB410_409.out; have hcz7_0 := vZ0 BK409; have hcz7_1 := vZ1 BK409; have hfz7_0 := kF BK409.out 0; have hfz7_1 := kF BK409.out 1; have hcz8_0 := vZ0 BK410; have hcz8_1 := vZ1 BK410; have hfz8_0 := kF BK410.out 0; have hfz8_1 := kF BK410.out 1) | ((with_reducible refine gC (f := 144) rfl ?_); refine goesL_ (some 15) rfl rfl Try.func144 kR rfl #[.int .i64 (wrap64 (a0_0 - a1_0)), .int .i64 (wrap64 (a0_1 - a1_1))] rfl sQ ?_; (with_reducible refine (impl_divisor.calls k (wrap64 (a0_0 - a1_0)) (wrap64 (a0_1 - a1_1)) t411 _ A3.out).mono ?_); rintro e w9 ⟨rfl, hb⟩; refine ⟨_, rfl, ?_⟩; replace BK409 := bB BK409 hb; replace BK410 := bB BK410 hb; replace HB := tB HB hb; (try clear hb); (try clear hb2); (try clear hk); (try clear hi)))
 go_ret
 exact ⟨wQ, bE⟩

mutual
def impl_pegsAround.l0 : Nat → List (S_impl_Peg) → List (S_impl_Peg) → List (S_impl_Peg) → Int → Int → Option ((List (S_impl_Peg)))
 | 0, _, _, _, _, _ => none
 | k + 1, x0, x3, x11, x12, x13 => if x13 < x12 then (if 0 ≤ x13 then (if x13 < (x11.length : Int) then ((impl_at.f x0 (wrap64 (x13 + 1))).bind fun bt421 => ((impl_steps.f k ((rd_impl_Peg x11 x13).f0) ((rd_impl_Peg x11 x13).f1) bt421.1 bt421.2).bind fun t424 => ((impl_Peg_less.f bt421.1 bt421.2 ((rd_impl_Peg x11 x13).f0) ((rd_impl_Peg x11 x13).f1)).bind fun bt425 => (impl_pegsAround.l1 k x0 x3 t424 x11 x12 x13 t424 0 ((rd_impl_Peg x11 x13).f0) ((rd_impl_Peg x11 x13).f1) bt425.1 bt425.2)))) else (none)) else (none)) else ((impl_first.f k x3).bind fun t415 => ((impl_told.f k x3 t415 1).bind fun t416 => (some t416)))
def impl_pegsAround.l1 : Nat → List (S_impl_Peg) → List (S_impl_Peg) → Int → List (S_impl_Peg) → Int → Int → Int → Int → Int → Int → Int → Int → Option ((List (S_impl_Peg)))
 | 0, _, _, _, _, _, _, _, _, _, _, _, _ => none
 | k + 1, x0, x3, x7, x11, x12, x13, x28, x29, x421000, x421001, x428000, x428001 => if x29 < x28 then (if x7 = 0 then (none) else ((impl_Peg_plus.f x421000 x421001 (wrap64 (Int.tdiv (wrap64 (x29 * x428000)) x7)) (wrap64 (Int.tdiv (wrap64 (x29 * x428001)) x7))).bind fun bt428 => (if x3.length < 8796093022208 then (impl_pegsAround.l1 k x0 (x3 ++ [(⟨bt428.1, bt428.2⟩ : S_impl_Peg)]) x7 x11 x12 x13 x28 (wrap64 (x29 + 1)) x421000 x421001 x428000 x428001) else (none)))) else (impl_pegsAround.l0 k x0 x3 x11 x12 (wrap64 (x13 + 1)))
end
def impl_pegsAround.f (k : Nat) (l0 : List (S_impl_Peg)) : Option ((List (S_impl_Peg))) := impl_pegsAround.l0 k l0 (([] : List (S_impl_Peg))) l0 (l0.length : Int) 0
theorem impl_pegsAround.mono_l : ∀ k, (∀ y0 y1 y2 y3 y4, LeO (impl_pegsAround.l0 k y0 y1 y2 y3 y4) (impl_pegsAround.l0 (k + 1) y0 y1 y2 y3 y4)) ∧ (∀ y0 y1 y2 y3 y4 y5 y6 y7 y8 y9 y10 y11, LeO (impl_pegsAround.l1 k y0 y1 y2 y3 y4 y5 y6 y7 y8 y9 y10 y11) (impl_pegsAround.l1 (k + 1) y0 y1 y2 y3 y4 y5 y6 y7 y8 y9 y10 y11))
 | 0 => ⟨fun _ _ _ _ _ r h => by simp [impl_pegsAround.l0] at h, fun _ _ _ _ _ _ _ _ _ _ _ _ r h => by simp [impl_pegsAround.l1] at h⟩
 | k + 1 => by
  obtain ⟨ih0, ih1⟩ := impl_pegsAround.mono_l k
  refine ⟨?_, ?_⟩ <;> intros <;> (first | unfold impl_pegsAround.l0 | unfold impl_pegsAround.l1) <;> repeat' first | (with_reducible exact ih0 _ _ _ _ _) | (with_reducible exact ih1 _ _ _ _ _ _ _ _ _ _ _ _) | (with_reducible exact impl_first.mono _ _) | (with_reducible exact impl_steps.mono _ _ _ _ _) | (with_reducible exact impl_told.mono _ _ _ _) | (with_reducible exact LeO.refl _) | (with_reducible exact LeO.none _) | (with_reducible refine LeO.ite ?_ ?_) | (with_reducible refine LeO.bind ?_ (fun _ => ?_)) | exact ih0 _ _ _ _ _ | exact ih1 _ _ _ _ _ _ _ _ _ _ _ _ | exact impl_first.mono _ _ | exact impl_steps.mono _ _ _ _ _ | exact impl_told.mono _ _ _ _ | exact LeO.none _ | refine LeO.ite ?_ ?_ | refine LeO.bind ?_ (fun _ => ?_)
theorem impl_pegsAround.mono : ∀ a0 k, LeO (impl_pegsAround.f k a0) (impl_pegsAround.f (k + 1) a0) := by
 intro a0 k
 obtain ⟨ih0, ih1⟩ := impl_pegsAround.mono_l k
 unfold impl_pegsAround.f
 repeat' first | (with_reducible exact ih0 _ _ _ _ _) | (with_reducible exact ih1 _ _ _ _ _ _ _ _ _ _ _ _) | (with_reducible exact impl_first.mono _ _) | (with_reducible exact impl_steps.mono _ _ _ _ _) | (with_reducible exact impl_told.mono _ _ _ _) | (with_reducible exact LeO.refl _) | (with_reducible exact LeO.none _) | (with_reducible refine LeO.ite ?_ ?_) | (with_reducible refine LeO.bind ?_ (fun _ => ?_)) | exact ih0 _ _ _ _ _ | exact ih1 _ _ _ _ _ _ _ _ _ _ _ _ | exact impl_first.mono _ _ | exact impl_steps.mono _ _ _ _ _ | exact impl_told.mono _ _ _ _ | exact LeO.none _ | refine LeO.ite ?_ ?_ | refine LeO.bind ?_ (fun _ => ?_)
def impl_pegsAround.T11 : Bool × List (List Nat × List Nat) := (true, [([], []), ([], []), ([], []), ([], []), ([3], [3]), ([2, 4], [2, 4]), ([], []), ([5, 6], [5, 6]), ([], []), ([], []), ([9], [9]), ([8, 10], [8, 10]), ([], []), ([11, 12], [11, 12]), ([7, 13], [7, 13]), ([1, 14], [1, 14]), ([15], [15]), ([0, 16, 15], [0, 16]), ([17, 17, 0, 1, 2, 3, 4, 5, 6, 7, 8, 9, 10, 11, 12, 13, 14, 15, 16, 17], [0, 17])])
def impl_pegsAround.B11 : List Nat := [0, 0, 0, 0, 8, 28, 0, 124, 0, 0, 512, 1792, 0, 7936, 16380, 32766, 65534, 131071, 262143]
theorem impl_pegsAround.tab11 : rtab .any (opsOf Try.f101 11) = impl_pegsAround.T11 := by kernel_rfl
theorem impl_pegsAround.bits11 : waitsOk impl_pegsAround.T11.2 impl_pegsAround.B11 = true := by kernel_rfl
set_option maxHeartbeats 8000000 in
set_option maxRecDepth 100000 in
theorem impl_pegsAround.calls (k : Nat) (A0 : Option Addr) (c0 : Nat) (l0 : List (S_impl_Peg)) (r : List (S_impl_Peg)) (w : World) (hr0 : Kd.C kd_impl_Peg w A0 l0.length l0) (hc0 : l0.length ≤ c0) (h : impl_pegsAround.f k l0 = some r) :
  Calls Try.prog 101 #[.slice A0 l0.length c0] w fun e w' => ∃ v0_ : Value, e = .returned (v0_) ∧ Kd.R kd_impl_Peg 26 w' w.heap.size (fun _ => True) v0_ r ∧ Below w.heap.size w w' := by
 have hu26 := Try.underlying26; have HR0 := aM hr0; have HC0 := aM hc0; clear hr0 hc0; have HB := aM (Below.refl w.heap.size w)
 unfold impl_pegsAround.f at h; have H := h; clear h
 obtain ⟨y412, hy412⟩ : ∃ y_ : List (S_impl_Peg), y_ = (([] : List (S_impl_Peg))) := ⟨_, rfl⟩; rw [← hy412] at H; have Ny412 := aM hy412; clear hy412; have H' := aM H; clear H
 go_enter Try.func101, Try.ntmps101
 go_wp2_with (first | ((with_reducible refine gate_dst (N := 10) rfl ?_); refine Kd.R_lit kd_impl_Peg _ 26 ?hg (N := 10) ?hd (xs := ([] : List (S_impl_Peg))) (inner := []) (ok := fun _ => True) (okp := fun _ => True) ?hr ?hp (fun _ hk => hk) trivial (Below.refl _ _) (Nat.le_refl _) (by simp) ?_; (case hd => rfl); (case hg => rfl); (case hr => first | (go_simp; done) | (go_simp; rfl)); (case hp => exact (Reps.none _ _)); intro v413 w2 ho3 hb hg_ hnew_; clear hg_ hnew_; (first | rw [← Ny412.out] at ho3 | (simp only [Int.reduceToNat] at ho3; rw [← Ny412.out] at ho3)); have HO414 := aM (Kd.R_lower ho3 (pZ bQ)); replace HB := tB HB hb; clear hb ho3))
 go_loopg [3, 13] k (fun kq v3 v13 w' => ∃ (x3_1 : List (S_impl_Peg)) (x13_1 : Int), v13 = .int .i64 x13_1 ∧ Aside0 (impl_pegsAround.l0 kq l0 x3_1 l0 (l0.length : Int) x13_1 = some r) ∧ Aside0 (kq ≤ k) ∧ Aside0 (Kd.R kd_impl_Peg 26 w' w.heap.size (fun _ => True) v3 x3_1) ∧ Aside0 (Below w.heap.size w w'))
 case atStart => exact ⟨(y412), (0), eQ, H', ⟨Nat.le_refl _⟩, ⟨by (with_reducible repeat (first | apply rA | apply rN | apply rD)); exact HO414.out⟩, ⟨bQ⟩⟩
 case round =>
  clear H'; obtain ⟨x3_1, x13_1, rfl, HA, HK1, HO_3, HB⟩ := hrel
  cases gk with
  | zero => exact absurd HA.out (by simp [impl_pegsAround.l0])
  | succ k1 =>
   have H := HA.out; clear HA
   simp only [impl_pegsAround.l0] at H
   by_cases c4 : x13_1 < (l0.length : Int)
   ·rw [if_pos c4] at H; have c4b0 := dE c4; clear c4; replace H := iD H; obtain ⟨c5b0, H⟩ := H; replace H := iD H; obtain ⟨c6b0, H⟩ := H; replace H := bS H; obtain ⟨⟨t421, t422⟩, A7, H⟩ := H; replace H := bS H; obtain ⟨t424, A8, H⟩ := H; replace H := bS H; obtain ⟨⟨t425, t426⟩, A9, H⟩ := H; have H' := aM H; clear H; have p419 : 0 ≤ (x13_1 : Int) := dT aQ; have q419 : x13_1 < (l0.length : Int) := dT aQ; obtain ⟨ad419, e419, hx419_0, hx419_1⟩ := at_impl_Peg HR0.out x13_1 p419 q419
    cases e419
    replace hx419_0 := hC HB hx419_0; replace hx419_1 := hC HB hx419_1; replace p419 := eq_true p419; replace q419 := eq_true q419
    go_wp2_with (first | ((with_reducible refine gate_dst (N := 5) rfl ?_); refine bV 5 (cs := #[.int .i64 0, .int .i64 0]) (t := 26) rfl rfl (by first | (go_simp; done) | (go_simp; rfl)) ?_; intro gb420 hg w10 hbox hb; have BK420 := hbox; have GW420 := gZ HB hg; have GE420 := gZ HB hg; replace HO_3 := aM (Kd.R_below (Kd.R_elderB (by (with_reducible repeat (first | apply rA | apply rN | apply rD)); exact HO_3.out) gb420 (Nat.le_of_eq hg.symm)) hb); replace HB := tB HB hb; clear hb hbox hg; have hcz11_0 := vZ0 BK420; have hcz11_1 := vZ1 BK420; have hfz11_0 := kF BK420.out 0; have hfz11_1 := kF BK420.out 1) | ((with_reducible refine gC (f := 108) rfl ?_); refine goesL_ (some 21) rfl rfl Try.func108 kR rfl #[.slice (some ad419) l0.length c0, .int .i64 (wrap64 (x13_1 + 1))] rfl sQ ?_; (with_reducible refine (impl_at.calls _ _ l0 (wrap64 (x13_1 + 1)) t421 t422 _ ?side1 ?side2 A7.out).mono ?_); (case side1 => exact Kd.C_below HR0.out bE); (case side2 => exact HC0.out); rintro e w12 ⟨rfl, hb⟩; refine ⟨_, rfl, ?_⟩; replace HO_3 := aM (Kd.R_below (by (with_reducible repeat (first | apply rA | apply rN | apply rD)); exact (Kd.R_mono (Kd.R_far (p := ⟨gb420, 1, none⟩) (Kd.R_far (p := ⟨gb420, 0, none⟩) (Kd.R_mono HO_3.out (fun k_ hk => (⟨hk, hk.2⟩ : _ ∧ k_ ≠ gb420))) (fun _ hk => hk.2) (.int .i64 ((rd_impl_Peg l0 x13_1).f0))) (fun _ hk => hk.2) (.int .i64 ((rd_impl_Peg l0 x13_1).f1))) (fun _ h_ => h_.1))) hb); replace BK420 := aM (blk_below (g := gb420) (o := .cells #[.int .i64 ((rd_impl_Peg l0 x13_1).f0), .int .i64 ((rd_impl_Peg l0 x13_1).f1)] 26 (0, 0)) (fQ BK420) hb); replace HB := tB HB hb; (try clear hb); (try clear hb2); (try clear hk); (try clear hi)) | ((with_reducible refine gate_dst (N := 6) rfl ?_); refine bV 6 (cs := #[.int .i64 0, .int .i64 0]) (t := 26) rfl rfl (by first | (go_simp; done) | (go_simp; rfl)) ?_; intro gb423 hg w13 hbox hb; have BK423 := hbox; have GW423 := gZ HB hg; have GE423 := gZ HB hg; have NB420_423 := nG BK420 hg; have NB423_420 := nH BK420 hg; replace HO_3 := aM (Kd.R_below (Kd.R_elderB (by (with_reducible repeat (first | apply rA | apply rN | apply rD)); exact HO_3.out) gb423 (Nat.le_of_eq hg.symm)) hb); replace BK420 := bB BK420 hb; replace HB := tB HB hb; clear hb hbox hg; have hnb14 := NB423_420.out; have hnc14 := NB420_423.out; have hcz15_0 := vZ0 BK423; have hcz15_1 := vZ1 BK423; have hfz15_0 := kF BK423.out 0; have hfz15_1 := kF BK423.out 1; have hcz16_0 := vZ0 BK420; have hcz16_1 := vZ1 BK420; have hfz16_0 := kF BK420.out 0; have hfz16_1 := kF BK420.out 1) | ((with_reducible refine gC (f := 135) rfl ?_); refine goesL_ (some 24) rfl rfl Try.func135 kR rfl #[.agg #[.int .i64 ((rd_impl_Peg l0 x13_1).f0), .int .i64 ((rd_impl_Peg l0 x13_1).f1)], .agg #[.int .i64 t421, .int .i64 t422]] rfl sQ ?_; (with_reducible refine (impl_steps.calls k1 ((rd_impl_Peg l0 x13_1).f0) ((rd_impl_Peg l0 x13_1).f1) t421 t422 t424 _ A8.out).mono ?_); rintro e w17 ⟨rfl, hb⟩; refine ⟨_, rfl, ?_⟩; replace HO_3 := aM (Kd.R_below (by (with_reducible repeat (first | apply rA | apply rN | apply rD)); exact (Kd.R_mono (Kd.R_far (p := ⟨gb423, 1, none⟩) (Kd.R_far (p := ⟨gb423, 0, none⟩) (Kd.R_mono HO_3.out (fun k_ hk => (⟨hk, hk.2⟩ : _ ∧ k_ ≠ gb423))) (fun _ hk => hk.2) (.int .i64 t421)) (fun _ hk => hk.2) (.int .i64 t422)) (fun _ h_ => h_.1))) hb); replace BK420 := aM (blk_below (g := gb420) (o := .cells #[.int .i64 ((rd_impl_Peg l0 x13_1).f0), .int .i64 ((rd_impl_Peg l0 x13_1).f1)] 26 (0, 0)) (fQ BK420) hb); replace BK423 := aM (blk_below (g := gb423) (o := .cells #[.int .i64 t421, .int .i64 t422] 26 (0, 0)) (fQ BK423) hb); replace HB := tB HB hb; (try clear hb); (try clear hb2); (try clear hk); (try clear hi); have hcz18_0 := vZ0 BK423; have hcz18_1 := vZ1 BK423; have hfz18_0 := kF BK423.out 0; have hfz18_1 := kF BK423.out 1; have hcz19_0 := vZ0 BK420; have hcz19_1 := vZ1 BK420; have hfz19_0 := kF BK420.out 0; have hfz19_1 := kF BK420.out 1) | ((with_reducible refine gC (f := 85) rfl ?_); refine goesL_ (some 27) rfl rfl Try.func85 kR rfl #[.agg #[.int .i64 t421, .int .i64 t422], .agg #[.int .i64 ((rd_impl_Peg l0 x13_1).f0), .int .i64 ((rd_impl_Peg l0 x13_1).f1)]] rfl sQ ?_; (with_reducible refine (impl_Peg_less.calls t421 t422 ((rd_impl_Peg l0 x13_1).f0) ((rd_impl_Peg l0 x13_1).f1) t425 t426 _ A9.out).mono ?_); rintro e w20 ⟨rfl, hb⟩; refine ⟨_, rfl, ?_⟩; replace HO_3 := aM (Kd.R_below (by (with_reducible repeat (first | apply rA | apply rN | apply rD)); exact HO_3.out) hb); replace BK420 := bB BK420 hb; replace BK423 := bB BK423 hb; replace HB := tB HB hb; (try clear hb); (try clear hb2); (try clear hk); (try clear hi)) | ((with_reducible refine gate_dst (N := 8) rfl ?_); refine bV 8 (cs := #[.int .i64 0, .int .i64 0]) (t := 26) rfl rfl (by first | (go_simp; done) | (go_simp; rfl)) ?_; intro gb427 hg w21 hbox hb; have BK427 := hbox; have GW427 := gZ HB hg; have GE427 := gZ HB hg; have NB420_427 := nG BK420 hg; have NB427_420 := nH BK420 hg; have NB423_427 := nG BK423 hg; have NB427_423 := nH BK423 hg; replace HO_3 := aM (Kd.R_below (Kd.R_elderB (by (with_reducible repeat (first | apply rA | apply rN | apply rD)); exact HO_3.out) gb427 (Nat.le_of_eq hg.symm)) hb); replace BK420 := bB BK420 hb; replace BK423 := bB BK423 hb; replace HB := tB HB hb; clear hb hbox hg; have hnb22 := NB427_420.out; have hnc22 := NB420_427.out; have hnb23 := NB427_423.out; have hnc23 := NB423_427.out; have hcz24_0 := vZ0 BK427; have hcz24_1 := vZ1 BK427; have hfz24_0 := kF BK427.out 0; have hfz24_1 := kF BK427.out 1))
    go_loopg [3, 29] k1 (fun kq v3 v29 w' => ∃ (x3_2 : List (S_impl_Peg)) (x29_2 : Int), v29 = .int .i64 x29_2 ∧ Aside0 (impl_pegsAround.l1 kq l0 x3_2 t424 l0 (l0.length : Int) x13_1 t424 x29_2 ((rd_impl_Peg l0 x13_1).f0) ((rd_impl_Peg l0 x13_1).f1) t425 t426 = some r) ∧ Aside0 (kq ≤ k1) ∧ Aside0 (Kd.R kd_impl_Peg 26 w' w.heap.size (fun k_ => k_ ≠ gb420 ∧ k_ ≠ gb423 ∧ k_ ≠ gb427) v3 x3_2) ∧ Aside0 (w'.heap[gb420]? = some (.cells #[.int .i64 ((rd_impl_Peg l0 x13_1).f0), .int .i64 ((rd_impl_Peg l0 x13_1).f1)] 26 (0, 0))) ∧ Aside0 (w'.heap[gb423]? = some (.cells #[.int .i64 t421, .int .i64 t422] 26 (0, 0))) ∧ Aside0 (w'.heap[gb427]? = some (.cells #[.int .i64 t425, .int .i64 t426] 26 (0, 0))) ∧ Aside0 (Below w.heap.size w w'))
    case atStart => exact ⟨(x3_1), (0), eQ, H', ⟨Nat.le_refl _⟩, ⟨by (with_reducible repeat (first | apply rA | apply rN | apply rD)); exact Kd.R_mono (Kd.R_far (p := ⟨gb427, 1, none⟩) (Kd.R_far (p := ⟨gb427, 0, none⟩) (Kd.R_mono HO_3.out (fun k_ hk => (⟨hk, hk.2⟩ : _ ∧ k_ ≠ gb427))) (fun _ hk => hk.2) (.int .i64 t425)) (fun _ hk => hk.2) (.int .i64 t426)) (fun _ hk => ⟨hk.1.1.1.2, ⟨hk.1.1.2, hk.1.2⟩⟩)⟩, ⟨fQ BK420⟩, ⟨fQ BK423⟩, ⟨fQ BK427⟩, ⟨bE⟩⟩
    case round =>
     clear H'; (try clear c4); (try clear c4b0); (try clear c5b0); (try clear c6b0); (try clear hcz11_0); (try clear hcz11_1); (try clear hcz15_0); (try clear hcz15_1); (try clear hcz16_0); (try clear hcz16_1); (try clear hcz18_0); (try clear hcz18_1); (try clear hcz19_0); (try clear hcz19_1); (try clear hcz24_0); (try clear hcz24_1); (try clear hfz11_0); (try clear hfz11_1); (try clear hfz15_0); (try clear hfz15_1); (try clear hfz16_0); (try clear hfz16_1); (try clear hfz18_0); (try clear hfz18_1); (try clear hfz19_0); (try clear hfz19_1); (try clear hfz24_0); (try clear hfz24_1); (try clear hx419_0); (try clear hx419_1); (try clear p419); (try clear q419); obtain ⟨x3_2, x29_2, rfl, HA, HK2, HO_3, BK420, BK423, BK427, HB⟩ := hrel
     cases gk with
     | zero => exact absurd HA.out (by simp [impl_pegsAround.l1])
     | succ k2 =>
      have H := HA.out; clear HA
      simp only [impl_pegsAround.l1] at H
      by_cases c25 : x29_2 < t424
      ·rw [if_pos c25] at H; have c25b0 := dE c25; clear c25; replace H := iM H; obtain ⟨c26, H⟩ := H; have c26b0 : (t424 == 0) = false := beq_eq_false_iff_ne.mpr c26; have c26b1 : (t424 != 0) = true := bne_iff_ne.mpr c26; replace H := bS H; obtain ⟨⟨t428, t429⟩, A27, H⟩ := H; replace H := iN H; obtain ⟨c28, H⟩ := H; have LMc28 := aM c28; clear c28; obtain ⟨y430, hy430⟩ : ∃ y_ : List (S_impl_Peg), y_ = (x3_2 ++ [(⟨t428, t429⟩ : S_impl_Peg)]) := ⟨_, rfl⟩; rw [← hy430] at H; have Ny430 := aM hy430; clear hy430; have H' := aM H; clear H
       try go_wp2
       replace HO_3 := aM (rD HO_3.out); replace BK420 := aM (kD BK420.out); replace BK423 := aM (kD BK423.out); replace BK427 := aM (kD BK427.out); replace HB := aM (pD HB.out)
       refine start_ (n := 19) (S := fun w' => w'.cell? ⟨gb420, 0, none⟩ = some (.int .i64 ((rd_impl_Peg l0 x13_1).f0)) ∧ w'.cell? ⟨gb420, 1, none⟩ = some (.int .i64 ((rd_impl_Peg l0 x13_1).f1)) ∧ w'.cell? ⟨gb427, 0, none⟩ = some (.int .i64 t425) ∧ w'.cell? ⟨gb427, 1, none⟩ = some (.int .i64 t426)) (ds := []) (bA 19 0) kR rfl kR ⟨vZ0 BK420, vZ1 BK420, vZ0 BK427, vZ1 BK427⟩ (fun hHeld => ?_); refine with_tabW impl_pegsAround.tab11 impl_pegsAround.bits11 (fun HT_ HW_ => ?_)
       generalize wr.drew = w29 at HO_3 BK420 BK423 BK427 HB hHeld ⊢
       refine pU 0 32 (bA 19 1) HT_ ?_; refine pU 2 34 (bA 19 5) HT_ ?_; refine pU 3 35 (bA 19 13) HT_ ?_; refine pU 6 38 (bA 19 77) HT_ ?_; refine pU 8 40 (bA 19 333) HT_ ?_; refine pU 9 41 (bA 19 845) HT_ ?_; refine pU 12 44 (bA 19 4941) HT_ ?_
       refine tU 1 33 (bA 19 4943) HT_ HW_ hHeld ?_ (hy := Or.inl ⟨by rfl, by rintro w' ⟨s0, s1, s2, s3⟩; go_simp; with_reducible rfl⟩)
       refine tU 4 36 (bA 19 4959) HT_ HW_ hHeld ?_ (hy := Or.inl ⟨by rfl, by rintro w' ⟨s0, s1, s2, s3⟩; go_simp; with_reducible rfl⟩)
       refine pU 5 37 (bA 19 4991) HT_ ?_; refine pU 7 39 (bA 19 5119) HT_ ?_
       refine tU 10 42 (bA 19 6143) HT_ HW_ hHeld ?_ (hy := Or.inl ⟨by rfl, by rintro w' ⟨s0, s1, s2, s3⟩; go_simp; with_reducible rfl⟩)
       refine pU 11 43 (bA 19 8191) HT_ ?_; refine pU 13 45 (bA 19 16383) HT_ ?_; refine pU 14 46 (bA 19 32767) HT_ ?_
       refine oU 15 47 (bA 19 65535) HT_ (fun K hK => ?_)
       refine goes_ Try.func60 kR rfl #[.agg #[.int .i64 ((rd_impl_Peg l0 x13_1).f0), .int .i64 ((rd_impl_Peg l0 x13_1).f1)], .agg #[.int .i64 (wrap64 (Int.tdiv (wrap64 (x29_2 * t425)) t424)), .int .i64 (wrap64 (Int.tdiv (wrap64 (x29_2 * t426)) t424))]] (by rfl) rfl rfl sQ ?_
       with_reducible refine (impl_Peg_plus.calls ((rd_impl_Peg l0 x13_1).f0) ((rd_impl_Peg l0 x13_1).f1) (wrap64 (Int.tdiv (wrap64 (x29_2 * t425)) t424)) (wrap64 (Int.tdiv (wrap64 (x29_2 * t426)) t424)) t428 t429 _ A27.out).mono ?_
       rintro e w30 ⟨rfl, hb⟩; refine ⟨_, rfl, ?_⟩; replace HO_3 := aM (Kd.R_below (by (with_reducible repeat (first | apply rA | apply rN | apply rD)); exact HO_3.out) hb); replace BK420 := bB BK420 hb; replace BK423 := bB BK423 hb; replace BK427 := bB BK427 hb; replace HB := tB HB hb
       (try clear hb); (try clear hb2); (try clear hk); (try clear hi)
       refine hK.out _ _ ⟨vZ0 BK420, vZ1 BK420, vZ0 BK427, vZ1 BK427⟩ (fun hHeld => ?_)
       clear hK K
       refine nU ?_
       refine oU 16 48 (bA 19 131071) HT_ (fun K hK => ?_)
       refine value_ (w1 := ?_) (v := ?_) (by rfl) rfl ?_ ?_
       rotate_left 2
       ·go_simp
        constructor
        ·rfl
        ·rfl
       refine hK.out _ _ ⟨(kC (kA BK420.out _) 0).trans rfl, (kC (kA BK420.out _) 1).trans rfl, (kC (kA BK427.out _) 0).trans rfl, (kC (kA BK427.out _) 1).trans rfl⟩ (fun hHeld => ?_)
       clear hK K
       refine nU ?_
       refine oU 17 49 (bA 19 262143) HT_ (fun K hK => ?_)
       refine Kd.R_append_step kd_impl_Peg (w0 := w) w.heap.size (by rfl) (.tmp 32) (.tmp 48) 29 26 (.agg #[(.int .i64 0), (.int .i64 0)]) 16 rfl Try.underlying29 info26 rfl (by decide) (by omega) u3 x3_2 (⟨t428, t429⟩ : S_impl_Peg) [.int .i64 t428, .int .i64 t429] (fun k_ => k_ ≠ gb420 ∧ k_ ≠ gb423 ∧ k_ ≠ gb427) (fun _ => False) rfl rfl ?aP (fun _ hk => hk.elim) ?aF ?aO ?aB ?aS ?aL ?_
       (case aP => exact kd_impl_Peg_mkM _ _ _ (⟨t428, t429⟩ : S_impl_Peg))
       (case aB => exact bE)
       (case aF => exact (fun k_ hk => ⟨Kd.freshB (g := gb420) (o := .cells #[.int .i64 ((rd_impl_Peg l0 x13_1).f0), .int .i64 ((rd_impl_Peg l0 x13_1).f1)] 26 (0, 0)) (gQ BK420) k_ hk, Kd.freshB (g := gb423) (o := .cells #[.int .i64 t421, .int .i64 t422] 26 (0, 0)) (gQ BK423) k_ hk, Kd.freshB (g := gb427) (o := .cells #[.int .i64 t425, .int .i64 t426] 26 (0, 0)) (gQ BK427) k_ hk⟩))
       (case aO => exact (by (with_reducible repeat (first | apply rA | apply rN | apply rD)); exact HO_3.out))
       (case aS => exact (pZ bE))
       (case aL => have := LMc28.out; omega)
       intro v431 w31 ho hb hg hat
       rw [← Ny430.out] at ho; have n0_ := aM (blk_grown (g := gb420) (o := .cells #[.int .i64 ((rd_impl_Peg l0 x13_1).f0), .int .i64 ((rd_impl_Peg l0 x13_1).f1)] 26 (0, 0)) (gQ BK420) hg (Kd.R_away HO_3.out (fun _ hk => hk.1))); have n1_ := aM (blk_grown (g := gb423) (o := .cells #[.int .i64 t421, .int .i64 t422] 26 (0, 0)) (gQ BK423) hg (Kd.R_away HO_3.out (fun _ hk => hk.2.1))); have n2_ := aM (blk_grown (g := gb427) (o := .cells #[.int .i64 t425, .int .i64 t426] 26 (0, 0)) (gQ BK427) hg (Kd.R_away HO_3.out (fun _ hk => hk.2.2))); have n3_ := aM (hb); have n4_ := aM (ho); clear BK420; clear BK423; clear BK427; clear HB; clear HO_3; have BK420 := n0_; have BK423 := n1_; have BK427 := n2_; have HB := n3_; have HO432 := n4_; clear n0_ n1_ n2_ n3_ n4_; clear ho hb hg hat
       refine hK.out _ _ ⟨vZ0 BK420, vZ1 BK420, vZ0 BK427, vZ1 BK427⟩ (fun hHeld => ?_)
       clear hK K
       refine nU ?_
       refine pU 18 3 (bA 19 524287) HT_ ?_
       refine done_ (done_of HT_.out kR) ?_
       try go_wp2
       go_roundg k2
       case measure => have := HK1.out; have := HK2.out; omega
       case rel => exact ⟨(y430), (wrap64 (x29_2 + 1)), eQ, H', ⟨by have := HK1.out; have := HK2.out; omega⟩, ⟨by (with_reducible repeat (first | apply rA | apply rN | apply rD)); exact HO432.out⟩, ⟨gQ BK420⟩, ⟨gQ BK423⟩, ⟨gQ BK427⟩, ⟨bE⟩⟩
      ·rw [if_neg c25] at H; have c25b0 := decide_eq_false c25; clear c25; have H' := aM H; clear H; go_wp2
       go_roundg k2
       case measure => have := HK1.out; have := HK2.out; omega
       case rel => exact ⟨(x3_2), (wrap64 (x13_1 + 1)), eQ, H', ⟨by have := HK1.out; have := HK2.out; omega⟩, ⟨by (with_reducible repeat (first | apply rA | apply rN | apply rD)); exact Kd.R_mono HO_3.out (fun _ hk => trivial)⟩, ⟨bE⟩⟩
   ·rw [if_neg c4] at H; have c4b0 := decide_eq_false c4; clear c4; replace H := bS H; obtain ⟨t415, A32, H⟩ := H; replace H := bS H; obtain ⟨t416, A33, H⟩ := H; obtain rfl := Option.some.inj H; obtain ⟨Ao34, co34, eo34⟩ := Kd.R_slice HO_3.out; subst eo34
    go_wp2_with (first | ((with_reducible refine gC (f := 123) rfl ?_); refine goesL_ (some 54) rfl rfl Try.func123 kR rfl #[.slice Ao34 x3_1.length co34] rfl sQ ?_; (with_reducible refine (impl_first.calls k1 _ _ x3_1 t415 _ ?side1 ?side2 A32.out).mono ?_); (case side1 => repeat (first | exact (rR HO_3.out).2.2 | (with_reducible refine cA ?_ _) | (with_reducible refine cN ?_ _) | (with_reducible refine cD ?_))); (case side2 => exact (rR HO_3.out).2.1); rintro e w35 ⟨rfl, hb⟩; refine ⟨_, rfl, ?_⟩; replace HO_3 := aM (Kd.R_below (by (with_reducible repeat (first | apply rA | apply rN | apply rD)); exact HO_3.out) hb); replace HB := tB HB hb; (try clear hb); (try clear hb2); (try clear hk); (try clear hi)) | ((with_reducible refine gC (f := 66) rfl ?_); refine goesL_ (some 55) rfl rfl Try.func66 kR rfl #[.slice Ao34 x3_1.length co34, .int .i64 t415, .int .i64 1] rfl sQ ?_; (with_reducible refine (impl_told.calls k1 _ _ x3_1 t415 1 t416 _ ?side1 ?side2 A33.out).mono ?_); (case side1 => repeat (first | exact (rR HO_3.out).2.2 | (with_reducible refine cA ?_ _) | (with_reducible refine cN ?_ _) | (with_reducible refine cD ?_))); (case side2 => exact (rR HO_3.out).2.1); rintro e w36 ⟨v417, rfl, ho0, hb⟩; refine ⟨_, rfl, ?_⟩; have HO418 := aM (Kd.R_lower (Kd.R_new' ho0 (Kd.R_lt (by (with_reducible repeat (first | apply rA | apply rN | apply rD)); exact HO_3.out))) (pZ bQ)); replace HO_3 := aM (Kd.R_elder' (by (with_reducible repeat (first | apply rA | apply rN | apply rD)); exact HO_3.out) (Kd.R_base ho0) hb); replace HB := tB HB hb; (try clear hb); (try clear hb2); (try clear hk); (try clear hi); (try clear ho0)))
    go_ret
    exact ⟨_, by first | rfl | (simp [errW_none, errW_some] <;> rfl) | (simp [*, errW_none, errW_some] <;> rfl), by (with_reducible repeat (first | apply rA | apply rN | apply rD)); exact Kd.R_mono HO418.out (fun _ hk => trivial), bQ⟩

def impl_cross.f (a0_0 : Int) (a0_1 : Int) (a1_0 : Int) (a1_1 : Int) : Option (Int) := some (wrap64 ((wrap64 (a0_0 * a1_1)) - (wrap64 (a0_1 * a1_0))))
set_option maxHeartbeats 8000000 in
set_option maxRecDepth 100000 in
theorem impl_cross.calls (a0_0 : Int) (a0_1 : Int) (a1_0 : Int) (a1_1 : Int) (r : Int) (w : World) (h : impl_cross.f a0_0 a0_1 a1_0 a1_1 = some r) :
  Calls Try.prog 107 #[.agg #[.int .i64 a0_0, .int .i64 a0_1], .agg #[.int .i64 a1_0, .int .i64 a1_1]] w fun e w' => e = .returned (.int .i64 r) ∧ Below w.heap.size w w' := by
 have hu26 := Try.underlying26; have HB := aM (Below.refl w.heap.size w)
 unfold impl_cross.f at h; have H := h; clear h
 obtain rfl := Option.some.inj H
 go_enter Try.func107, Try.ntmps107
 go_wp2_with (first | ((with_reducible refine gate_dst (N := 2) rfl ?_); refine bV 2 (cs := #[.int .i64 a0_0, .int .i64 a0_1]) (t := 26) rfl rfl (by first | (go_simp; done) | (go_simp; rfl)) ?_; intro gb433 hg w3 hbox hb; have BK433 := hbox; have GW433 := gZ HB hg; have GE433 := gZ HB hg; replace HB := tB HB hb; clear hb hbox hg) | ((with_reducible refine gate_dst (N := 3) rfl ?_); refine bV 3 (cs := #[.int .i64 a1_0, .int .i64 a1_1]) (t := 26) rfl rfl (by first | (go_simp; done) | (go_simp; rfl)) ?_; intro gb434 hg w4 hbox hb; have BK434 := hbox; have GW434 := gZ HB hg; have GE434 := gZ HB hg; have NB433_434 := nG BK433 hg; have NB434_433 := nH BK433 hg; replace BK433 := bB BK433 hb; replace HB := tB HB hb; clear hb hbox hg; have hnb5 := NB433_434.out; have hnc5 := NB434_433.out; have hcz6_0 := vZ0 BK433; have hcz6_1 := vZ1 BK433; have hfz6_0 := kF BK433.out 0; have hfz6_1 := kF BK433.out 1; have hcz7_0 := vZ0 BK434; have hcz7_1 := vZ1 BK434; have hfz7_0 := kF BK434.out 0; have hfz7_1 := kF BK434.out 1))
 go_ret
 exact ⟨wQ, bE⟩

end Go.Proofs.Ytklhakfmegbobaa.X
