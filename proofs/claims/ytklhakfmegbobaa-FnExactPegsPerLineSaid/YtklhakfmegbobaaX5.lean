-- thin
-- short
-- compact
import Derived.Test.YtklhakfmegbobaaXA
import Derived.Test.YtklhakfmegbobaaX0
import Derived.Test.YtklhakfmegbobaaX2
import Derived.Test.YtklhakfmegbobaaX4
namespace Go.Proofs.Ytklhakfmegbobaa.X
open Go.RowKit Go.Proofs.Ytklhakfmegbobaa.XW Go.Proofs.YtklhakfmegbobaaW.PrintWords Go.Proofs.YtklhakfmegbobaaW.PrintLast Go.Proofs.YtklhakfmegbobaaW.PrintMore
attribute [local go_sem] max2_int min2_int max_two min_two max_three min_three max_four min_four   -- for this text's walks alone
set_option linter.unusedVariables false
set_option linter.unusedSimpArgs false

def spec_trThree.f (k : Nat) (l0 : List (S_impl_Peg)) : Option (Bool) := if (l0.length : Int) = 3 then ((spec_pgGood.f k l0).bind fun t146 => (some t146)) else (some false)
theorem spec_trThree.mono : ∀ a0 k, LeO (spec_trThree.f k a0) (spec_trThree.f (k + 1) a0) := by
 intro a0 k
 unfold spec_trThree.f
 repeat' first | (with_reducible exact spec_pgGood.mono _ _) | (with_reducible exact LeO.refl _) | (with_reducible exact LeO.none _) | (with_reducible refine LeO.ite ?_ ?_) | (with_reducible refine LeO.bind ?_ (fun _ => ?_)) | exact spec_pgGood.mono _ _ | exact LeO.none _ | refine LeO.ite ?_ ?_ | refine LeO.bind ?_ (fun _ => ?_)
set_option maxHeartbeats 8000000 in
set_option maxRecDepth 100000 in
theorem spec_trThree.calls (k : Nat) (A0 : Option Addr) (c0 : Nat) (l0 : List (S_impl_Peg)) (r : Bool) (w : World) (hr0 : Kd.C kd_impl_Peg w A0 l0.length l0) (hc0 : l0.length ≤ c0) (h : spec_trThree.f k l0 = some r) :
  Calls Try.prog 54 #[.slice A0 l0.length c0] w fun e w' => e = .returned (.bool r) ∧ Below w.heap.size w w' := by
 have HR0 := aM hr0; have HC0 := aM hc0; clear hr0 hc0; have HB := aM (Below.refl w.heap.size w)
 unfold spec_trThree.f at h; have H := h; clear h
 by_cases c2 : (l0.length : Int) = 3
 ·rw [if_pos c2] at H; have c2b0 : ((l0.length : Int) == 3) = true := beq_iff_eq.mpr c2; have c2b1 : ((l0.length : Int) != 3) = false := bne_eq_false_iff_eq.mpr c2; clear c2; replace H := bS H; obtain ⟨t146, A3, H⟩ := H; obtain rfl := Option.some.inj H
  go_enter Try.func54, Try.ntmps54
  go_wp2_with (first | (go_at_call 63; (with_reducible refine (spec_pgGood.calls k _ _ l0 t146 _ ?side1 ?side2 A3.out).mono ?_); (case side1 => repeat (first | exact HR0.out | (with_reducible refine cA ?_ _) | (with_reducible refine cN ?_ _) | (with_reducible refine cD ?_))); (case side2 => exact HC0.out); rintro e w4 ⟨rfl, hb⟩; replace HB := tB HB hb; (try clear hb); (try clear hb2); (try clear hk); (try clear hi)))
  go_ret
  exact ⟨wQ, bQ⟩
 ·rw [if_neg c2] at H; have c2b0 : ((l0.length : Int) == 3) = false := beq_eq_false_iff_ne.mpr c2; have c2b1 : ((l0.length : Int) != 3) = true := bne_iff_ne.mpr c2; obtain rfl := Option.some.inj H
  go_enter Try.func54, Try.ntmps54
  go_wp2
  go_ret
  exact ⟨wQ, bQ⟩

def spec_l1All.l0 : Nat → Int → Int → List Int → Int → Int → Option (Bool)
 | 0, _, _, _, _, _ => none
 | k + 1, x1, x2, x9, x10, x11 => if x11 < x10 then (if 0 ≤ x11 then (if x11 < (x9.length : Int) then ((spec_l1In.f (rd x9 x11) x1 x2).bind fun t148 => (if t148 = true then (spec_l1All.l0 k x1 x2 x9 x10 (wrap64 (x11 + 1))) else (some false))) else (none)) else (none)) else (some true)
def spec_l1All.f (k : Nat) (l0 : List Int) (a1 : Int) (a2 : Int) : Option (Bool) := spec_l1All.l0 k a1 a2 l0 (l0.length : Int) 0
theorem spec_l1All.mono_l : ∀ k, (∀ y0 y1 y2 y3 y4, LeO (spec_l1All.l0 k y0 y1 y2 y3 y4) (spec_l1All.l0 (k + 1) y0 y1 y2 y3 y4))
 | 0 => fun _ _ _ _ _ r h => by simp [spec_l1All.l0] at h
 | k + 1 => by
  have ih0 := spec_l1All.mono_l k
  ·intro y0 y1 y2 y3 y4
   unfold spec_l1All.l0
   repeat' first
   | (with_reducible exact ih0 _ _ _ _ _)
   | (with_reducible exact LeO.refl _)
   | (with_reducible exact LeO.none _)
   | (with_reducible refine LeO.ite ?_ ?_)
   | (with_reducible refine LeO.bind ?_ (fun _ => ?_))
   | exact ih0 _ _ _ _ _
   | exact LeO.none _
   | refine LeO.ite ?_ ?_
   | refine LeO.bind ?_ (fun _ => ?_)
theorem spec_l1All.mono : ∀ a0 a1 a2 k, LeO (spec_l1All.f k a0 a1 a2) (spec_l1All.f (k + 1) a0 a1 a2) := by
 intro a0 a1 a2 k
 have ih0 := spec_l1All.mono_l k
 unfold spec_l1All.f
 repeat' first | (with_reducible exact ih0 _ _ _ _ _) | (with_reducible exact LeO.refl _) | (with_reducible exact LeO.none _) | (with_reducible refine LeO.ite ?_ ?_) | (with_reducible refine LeO.bind ?_ (fun _ => ?_)) | exact ih0 _ _ _ _ _ | exact LeO.none _ | refine LeO.ite ?_ ?_ | refine LeO.bind ?_ (fun _ => ?_)
set_option maxHeartbeats 8000000 in
set_option maxRecDepth 100000 in
theorem spec_l1All.calls (k : Nat) (A0 : Option Addr) (c0 : Nat) (l0 : List Int) (a1 : Int) (a2 : Int) (r : Bool) (w : World) (hr0 : Kd.C (Kd.int .i64) w A0 l0.length l0) (hc0 : l0.length ≤ c0) (h : spec_l1All.f k l0 a1 a2 = some r) :
  Calls Try.prog 55 #[.slice A0 l0.length c0, .int .i64 a1, .int .i64 a2] w fun e w' => e = .returned (.bool r) ∧ Drawn0 w w' := by
 have HR0 := aM hr0; have HC0 := aM hc0; clear hr0 hc0
 unfold spec_l1All.f at h; have H := h; clear h
 have H' := aM H; clear H
 go_enter Try.func55, Try.ntmps55
 go_wp2
 go_loopg [11] k (fun kq v11 w' => ∃ (x11_1 : Int), v11 = .int .i64 x11_1 ∧ Aside0 (spec_l1All.l0 kq a1 a2 l0 (l0.length : Int) x11_1 = some r) ∧ Aside0 (kq ≤ k) ∧ Drawn0 w w')
 case atStart => exact ⟨(0), eQ, H', ⟨Nat.le_refl _⟩, dQ⟩
 case round =>
  clear H'; obtain ⟨x11_1, rfl, HA, HK1, ⟨m1, rfl⟩⟩ := hrel
  cases gk with
  | zero => exact absurd HA.out (by simp [spec_l1All.l0])
  | succ k1 =>
   have H := HA.out; clear HA
   simp only [spec_l1All.l0] at H
   by_cases c4 : x11_1 < (l0.length : Int)
   ·rw [if_pos c4] at H; have c4b0 := dE c4; clear c4; replace H := iD H; obtain ⟨c5b0, H⟩ := H; replace H := iD H; obtain ⟨c6b0, H⟩ := H; replace H := bS H; obtain ⟨t148, A7, H⟩ := H
    by_cases c8 : t148 = true
    ·subst c8; replace H := iT H; have H' := aM H; clear H; have p147 : 0 ≤ (x11_1 : Int) := dT aQ; have q147 : x11_1 < (l0.length : Int) := dT aQ; obtain ⟨ad147, e147, hx147_0⟩ := Kd.at_int HR0.out x11_1 p147 q147
     cases e147
     replace p147 := eq_true p147; replace q147 := eq_true q147
     go_wp2_with (first | ((with_reducible refine gC (f := 79) rfl ?_); refine goesL_ (some 18) rfl rfl Try.func79 kR rfl #[.int .i64 (rd l0 x11_1), .int .i64 a1, .int .i64 a2] rfl sQ ?_; (with_reducible refine (spec_l1In.calls (rd l0 x11_1) a1 a2 true _ A7.out).mono ?_); rintro e w' ⟨rfl, ⟨nd, rfl⟩⟩; refine ⟨_, rfl, ?_⟩))
     go_roundg k1
     case measure => have := HK1.out; omega
     case rel => exact ⟨(wrap64 (x11_1 + 1)), eQ, H', ⟨by have := HK1.out; omega⟩, dQ⟩
    ·replace c8 := Bool.eq_false_iff.mpr c8; subst c8; replace H := iF H; obtain rfl := Option.some.inj H; have p147 : 0 ≤ (x11_1 : Int) := dT aQ; have q147 : x11_1 < (l0.length : Int) := dT aQ; obtain ⟨ad147, e147, hx147_0⟩ := Kd.at_int HR0.out x11_1 p147 q147
     cases e147
     replace p147 := eq_true p147; replace q147 := eq_true q147
     go_wp2_with (first | ((with_reducible refine gC (f := 79) rfl ?_); refine goesL_ (some 18) rfl rfl Try.func79 kR rfl #[.int .i64 (rd l0 x11_1), .int .i64 a1, .int .i64 a2] rfl sQ ?_; (with_reducible refine (spec_l1In.calls (rd l0 x11_1) a1 a2 false _ A7.out).mono ?_); rintro e w' ⟨rfl, ⟨nd, rfl⟩⟩; refine ⟨_, rfl, ?_⟩))
     go_ret
     exact ⟨eQ, dQ⟩
   ·rw [if_neg c4] at H; have c4b0 := decide_eq_false c4; clear c4; obtain rfl := Option.some.inj H; go_wp2
    go_ret
    exact ⟨eQ, dQ⟩

def spec_pgArea.l0 : Nat → List (S_impl_Peg) → Int → Int → Option (Int)
 | 0, _, _, _ => none
 | k + 1, x0, x3, x4 => if x4 < (x0.length : Int) then (if 0 < (x0.length : Int) then (if 0 ≤ (wrap64 (x4 - 1)) then (if (wrap64 (x4 - 1)) < (x0.length : Int) then (if 0 ≤ x4 then ((spec_pgTurn.f ((rd_impl_Peg x0 0).f0) ((rd_impl_Peg x0 0).f1) ((rd_impl_Peg x0 (wrap64 (x4 - 1))).f0) ((rd_impl_Peg x0 (wrap64 (x4 - 1))).f1) ((rd_impl_Peg x0 x4).f0) ((rd_impl_Peg x0 x4).f1)).bind fun t152 => (spec_pgArea.l0 k x0 (wrap64 (x3 + t152)) (wrap64 (x4 + 1)))) else (none)) else (none)) else (none)) else (none)) else (some x3)
def spec_pgArea.f (k : Nat) (l0 : List (S_impl_Peg)) : Option (Int) := spec_pgArea.l0 k l0 0 2
theorem spec_pgArea.mono_l : ∀ k, (∀ y0 y1 y2, LeO (spec_pgArea.l0 k y0 y1 y2) (spec_pgArea.l0 (k + 1) y0 y1 y2))
 | 0 => fun _ _ _ r h => by simp [spec_pgArea.l0] at h
 | k + 1 => by
  have ih0 := spec_pgArea.mono_l k
  ·intro y0 y1 y2
   unfold spec_pgArea.l0
   repeat' first
   | (with_reducible exact ih0 _ _ _)
   | (with_reducible exact LeO.refl _)
   | (with_reducible exact LeO.none _)
   | (with_reducible refine LeO.ite ?_ ?_)
   | (with_reducible refine LeO.bind ?_ (fun _ => ?_))
   | exact ih0 _ _ _
   | exact LeO.none _
   | refine LeO.ite ?_ ?_
   | refine LeO.bind ?_ (fun _ => ?_)
theorem spec_pgArea.mono : ∀ a0 k, LeO (spec_pgArea.f k a0) (spec_pgArea.f (k + 1) a0) := by
 intro a0 k
 have ih0 := spec_pgArea.mono_l k
 unfold spec_pgArea.f
 repeat' first | (with_reducible exact ih0 _ _ _) | (with_reducible exact LeO.refl _) | (with_reducible exact LeO.none _) | (with_reducible refine LeO.ite ?_ ?_) | (with_reducible refine LeO.bind ?_ (fun _ => ?_)) | exact ih0 _ _ _ | exact LeO.none _ | refine LeO.ite ?_ ?_ | refine LeO.bind ?_ (fun _ => ?_)
def spec_pgArea.T5 : Bool × List (List Nat × List Nat) := (true, [([], []), ([], []), ([1], [1]), ([2], [2]), ([], []), ([], []), ([5], [5]), ([4, 6], [4, 6]), ([7], [7]), ([], []), ([], []), ([9, 10], [9, 10]), ([11], [11]), ([3, 8, 12], [3, 8, 12]), ([0, 13], [0, 13]), ([14, 13, 0, 1, 2, 3, 4, 5, 6, 7, 8, 9, 10, 11, 12, 13, 14], [0, 14])])
def spec_pgArea.B5 : List Nat := [0, 0, 2, 6, 0, 0, 32, 112, 240, 0, 0, 1536, 3584, 8190, 16383, 32767]
theorem spec_pgArea.tab5 : rtab .any (opsOf Try.f56 5) = spec_pgArea.T5 := by kernel_rfl
theorem spec_pgArea.bits5 : waitsOk spec_pgArea.T5.2 spec_pgArea.B5 = true := by kernel_rfl
set_option maxHeartbeats 8000000 in
set_option maxRecDepth 100000 in
theorem spec_pgArea.calls (k : Nat) (A0 : Option Addr) (c0 : Nat) (l0 : List (S_impl_Peg)) (r : Int) (w : World) (hr0 : Kd.C kd_impl_Peg w A0 l0.length l0) (hc0 : l0.length ≤ c0) (h : spec_pgArea.f k l0 = some r) :
  Calls Try.prog 56 #[.slice A0 l0.length c0] w fun e w' => e = .returned (.int .i64 r) ∧ Below w.heap.size w w' := by
 have hu26 := Try.underlying26; have HR0 := aM hr0; have HC0 := aM hc0; clear hr0 hc0; have HB := aM (Below.refl w.heap.size w)
 unfold spec_pgArea.f at h; have H := h; clear h
 have H' := aM H; clear H
 go_enter Try.func56, Try.ntmps56
 go_wp2
 go_loopg [3, 4] k (fun kq v3 v4 w' => ∃ (x3_1 : Int) (x4_1 : Int), v3 = .int .i64 x3_1 ∧ v4 = .int .i64 x4_1 ∧ Aside0 (spec_pgArea.l0 kq l0 x3_1 x4_1 = some r) ∧ Aside0 (kq ≤ k) ∧ Aside0 (Below w.heap.size w w'))
 case atStart => exact ⟨(0), (2), eQ, eQ, H', ⟨Nat.le_refl _⟩, ⟨bQ⟩⟩
 case round =>
  clear H'; obtain ⟨x3_1, x4_1, rfl, rfl, HA, HK1, HB⟩ := hrel
  cases gk with
  | zero => exact absurd HA.out (by simp [spec_pgArea.l0])
  | succ k1 =>
   have H := HA.out; clear HA
   simp only [spec_pgArea.l0] at H
   by_cases c2 : x4_1 < (l0.length : Int)
   ·rw [if_pos c2] at H; have c2b0 := dE c2; clear c2; replace H := iN H; obtain ⟨c3, H⟩ := H; have c3b0 := dE c3; have c3b1 : decide (0 < l0.length) = true := dE (by omega)
    clear c3; obtain ⟨ji4, hji4⟩ : ∃ j_ : Int, (wrap64 (x4_1 - 1)) = j_ := ⟨_, rfl⟩
    (first | rw [hji4] at H | simp only [hji4] at H)
    have hji4w : (IntKind.i64.wrap (x4_1 - 1)) = ji4 := (i64_w _).trans hji4; replace H := iD H; obtain ⟨c5b0, H⟩ := H; replace H := iD H; obtain ⟨c6b0, H⟩ := H; replace H := iD H; obtain ⟨c7b0, H⟩ := H; replace H := bS H; obtain ⟨t152, A8, H⟩ := H; have H' := aM H; clear H
    try go_wp2
    replace HB := aM (pD HB.out); have p149 : 0 ≤ (0 : Int) := (by omega)
    have q149 : 0 < (l0.length : Int) := dT aQ; obtain ⟨ad149, e149, hx149_0, hx149_1⟩ := at_impl_Peg HR0.out 0 p149 q149; have hw149_1 := hx149_1
    (try rw [show ((0 : Int)).toNat = 0 from rfl] at hw149_1)
    (try rw [show 0 * 2 = 0 from rfl] at hw149_1)
    (try rw [Addr.add_zero'] at hw149_1)
    have hw149_0 := hx149_0
    (try rw [show ((0 : Int)).toNat = 0 from rfl] at hw149_0)
    (try rw [show 0 * 2 = 0 from rfl] at hw149_0)
    (try rw [Addr.add_zero'] at hw149_0)
    cases e149
    have qi149 : (0 < l0.length) = True := eq_true (by omega)
    (try rw [show ((0 : Int)).toNat = 0 from rfl] at hx149_0)
    (try rw [show 0 * 2 = 0 from rfl] at hx149_0)
    (try rw [Addr.add_zero'] at hx149_0)
    (try rw [show ((0 : Int)).toNat = 0 from rfl] at hx149_1)
    (try rw [show 0 * 2 = 0 from rfl] at hx149_1)
    (try rw [Addr.add_zero'] at hx149_1)
    replace hx149_0 := hC HB hx149_0; replace hx149_1 := hC HB hx149_1; replace p149 := eq_true p149; replace q149 := eq_true q149; have p150 : 0 ≤ ((ji4) : Int) := dT aQ; have q150 : (ji4) < (l0.length : Int) := dT aQ; obtain ⟨ad150, e150, hx150_0, hx150_1⟩ := at_impl_Peg HR0.out (ji4) p150 q150; have hw150_1 := hx150_1; have hw150_0 := hx150_0; obtain rfl : ad149 = ad150 := (by injection e150)
    replace hx150_0 := hC HB hx150_0; replace hx150_1 := hC HB hx150_1; replace p150 := eq_true p150; replace q150 := eq_true q150; have p151 : 0 ≤ (x4_1 : Int) := dT aQ; have q151 : x4_1 < (l0.length : Int) := dT aQ; obtain ⟨ad151, e151, hx151_0, hx151_1⟩ := at_impl_Peg HR0.out x4_1 p151 q151; have hw151_1 := hx151_1; have hw151_0 := hx151_0; obtain rfl : ad149 = ad151 := (by injection e151)
    replace hx151_0 := hC HB hx151_0; replace hx151_1 := hC HB hx151_1; replace p151 := eq_true p151; replace q151 := eq_true q151
    refine start_ (n := 16) (S := fun w' => w'.cell? ad149 = some (.int .i64 ((rd_impl_Peg l0 0).f0)) ∧ w'.cell? ⟨ad149.block, ad149.off + 1, none⟩ = some (.int .i64 ((rd_impl_Peg l0 0).f1)) ∧ w'.cell? (ad149.add (((ji4)).toNat * 2)) = some (.int .i64 ((rd_impl_Peg l0 (ji4)).f0)) ∧ w'.cell? ⟨(ad149.add (((ji4)).toNat * 2)).block, (ad149.add (((ji4)).toNat * 2)).off + 1, none⟩ = some (.int .i64 ((rd_impl_Peg l0 (ji4)).f1)) ∧ w'.cell? (ad149.add ((x4_1).toNat * 2)) = some (.int .i64 ((rd_impl_Peg l0 x4_1).f0)) ∧ w'.cell? ⟨(ad149.add ((x4_1).toNat * 2)).block, (ad149.add ((x4_1).toNat * 2)).off + 1, none⟩ = some (.int .i64 ((rd_impl_Peg l0 x4_1).f1))) (ds := []) (bA 16 0) kR rfl kR ⟨(hC HB hw149_0 :), (hC HB hw149_1 :), (hC HB hw150_0 :), (hC HB hw150_1 :), (hC HB hw151_0 :), (hC HB hw151_1 :)⟩ (fun hHeld => ?_); refine with_tabW spec_pgArea.tab5 spec_pgArea.bits5 (fun HT_ HW_ => ?_)
    generalize wr.drew = w9 at HB hx149_0 hx149_1 hx150_0 hx150_1 hx151_0 hx151_1 hHeld ⊢
    refine pU 0 11 (bA 16 1) HT_ ?_; refine pU 1 12 (bA 16 3) HT_ ?_; refine pU 2 13 (bA 16 7) HT_ ?_; refine pU 4 15 (bA 16 23) HT_ ?_; refine pU 5 16 (bA 16 55) HT_ ?_; refine pU 6 17 (bA 16 119) HT_ ?_; refine pU 7 18 (bA 16 247) HT_ ?_; refine pU 9 20 (bA 16 759) HT_ ?_; refine pU 10 21 (bA 16 1783) HT_ ?_; refine pU 11 22 (bA 16 3831) HT_ ?_
    refine tU 3 14 (bA 16 3839) HT_ HW_ hHeld ?_ (hy := Or.inl ⟨by rfl, by rintro w' ⟨s0, s1, s2, s3, s4, s5⟩; go_simp; with_reducible rfl⟩)
    refine tU 8 19 (bA 16 4095) HT_ HW_ hHeld ?_ (hy := Or.inl ⟨by rfl, by rintro w' ⟨s0, s1, s2, s3, s4, s5⟩; go_simp; with_reducible rfl⟩)
    refine tU 12 23 (bA 16 8191) HT_ HW_ hHeld ?_ (hy := Or.inl ⟨by rfl, by rintro w' ⟨s0, s1, s2, s3, s4, s5⟩; go_simp; with_reducible rfl⟩)
    refine oU 13 24 (bA 16 16383) HT_ (fun K hK => ?_)
    refine goes_ Try.func106 kR rfl #[.agg #[.int .i64 ((rd_impl_Peg l0 0).f0), .int .i64 ((rd_impl_Peg l0 0).f1)], .agg #[.int .i64 ((rd_impl_Peg l0 (ji4)).f0), .int .i64 ((rd_impl_Peg l0 (ji4)).f1)], .agg #[.int .i64 ((rd_impl_Peg l0 x4_1).f0), .int .i64 ((rd_impl_Peg l0 x4_1).f1)]] (by rfl) rfl rfl (by (try simp only [mA, mC, mN]); first | done | (simp only [hji4]; rfl) | rfl | (simp only [lD, lT]; rfl)) ?_
    with_reducible refine (spec_pgTurn.calls ((rd_impl_Peg l0 0).f0) ((rd_impl_Peg l0 0).f1) ((rd_impl_Peg l0 (ji4)).f0) ((rd_impl_Peg l0 (ji4)).f1) ((rd_impl_Peg l0 x4_1).f0) ((rd_impl_Peg l0 x4_1).f1) t152 _ A8.out).mono ?_
    rintro e w10 ⟨rfl, hb⟩; refine ⟨_, rfl, ?_⟩; replace HB := tB HB hb; (try clear hb); (try clear hb2); (try clear hk); (try clear hi)
    refine hK.out _ _ ⟨(hC HB hw149_0 :), (hC HB hw149_1 :), (hC HB hw150_0 :), (hC HB hw150_1 :), (hC HB hw151_0 :), (hC HB hw151_1 :)⟩ (fun hHeld => ?_)
    clear hK K
    refine nU ?_
    refine pU 14 25 (bA 16 32767) HT_ ?_; refine pU 15 3 (bA 16 65535) HT_ ?_
    refine done_ (done_of HT_.out kR) ?_
    try go_wp2
    go_roundg k1
    case measure => have := HK1.out; omega
    case rel => exact ⟨(wrap64 (x3_1 + t152)), (wrap64 (x4_1 + 1)), eQ, eQ, H', ⟨by have := HK1.out; omega⟩, ⟨bQ⟩⟩
   ·rw [if_neg c2] at H; have c2b0 := decide_eq_false c2; clear c2; obtain rfl := Option.some.inj H; go_wp2
    go_ret
    exact ⟨wQ, bQ⟩

end Go.Proofs.Ytklhakfmegbobaa.X
