-- thin
-- short
-- compact
import Derived.Test.YtklhakfmegbobaaXA
import Derived.Test.YtklhakfmegbobaaX0
namespace Go.Proofs.Ytklhakfmegbobaa.X
open Go.RowKit Go.Proofs.Ytklhakfmegbobaa.XW Go.Proofs.YtklhakfmegbobaaW.PrintWords Go.Proofs.YtklhakfmegbobaaW.PrintLast Go.Proofs.YtklhakfmegbobaaW.PrintMore
attribute [local go_sem] max2_int min2_int max_two min_two max_three min_three max_four min_four   -- for this text's walks alone
set_option linter.unusedVariables false
set_option linter.unusedSimpArgs false

def cmp_Or_int.l0 : Nat → Int → List Int → Int → Int → Option (Int)
 | 0, _, _, _, _ => none
 | k + 1, x3, x6, x7, x8 => if x8 < x7 then (if 0 ≤ x8 then (if x8 < (x6.length : Int) then (if (rd x6 x8) = x3 then (cmp_Or_int.l0 k x3 x6 x7 (wrap64 (x8 + 1))) else (some (rd x6 x8))) else (none)) else (none)) else (some x3)
def cmp_Or_int.f (k : Nat) (l0 : List Int) : Option (Int) := cmp_Or_int.l0 k 0 l0 (l0.length : Int) 0
theorem cmp_Or_int.mono_l : ∀ k, (∀ y0 y1 y2 y3, LeO (cmp_Or_int.l0 k y0 y1 y2 y3) (cmp_Or_int.l0 (k + 1) y0 y1 y2 y3))
 | 0 => fun _ _ _ _ r h => by simp [cmp_Or_int.l0] at h
 | k + 1 => by
  have ih0 := cmp_Or_int.mono_l k
  ·intro y0 y1 y2 y3
   unfold cmp_Or_int.l0
   repeat' first
   | (with_reducible exact ih0 _ _ _ _)
   | (with_reducible exact LeO.refl _)
   | (with_reducible exact LeO.none _)
   | (with_reducible refine LeO.ite ?_ ?_)
   | (with_reducible refine LeO.bind ?_ (fun _ => ?_))
   | exact ih0 _ _ _ _
   | exact LeO.none _
   | refine LeO.ite ?_ ?_
   | refine LeO.bind ?_ (fun _ => ?_)
theorem cmp_Or_int.mono : ∀ a0 k, LeO (cmp_Or_int.f k a0) (cmp_Or_int.f (k + 1) a0) := by
 intro a0 k
 have ih0 := cmp_Or_int.mono_l k
 unfold cmp_Or_int.f
 repeat' first | (with_reducible exact ih0 _ _ _ _) | (with_reducible exact LeO.refl _) | (with_reducible exact LeO.none _) | (with_reducible refine LeO.ite ?_ ?_) | (with_reducible refine LeO.bind ?_ (fun _ => ?_)) | exact ih0 _ _ _ _ | exact LeO.none _ | refine LeO.ite ?_ ?_ | refine LeO.bind ?_ (fun _ => ?_)
set_option maxHeartbeats 8000000 in
set_option maxRecDepth 100000 in
theorem cmp_Or_int.calls (k : Nat) (A0 : Option Addr) (c0 : Nat) (l0 : List Int) (r : Int) (w : World) (hr0 : Kd.C (Kd.int .i64) w A0 l0.length l0) (hc0 : l0.length ≤ c0) (h : cmp_Or_int.f k l0 = some r) :
  Calls Try.prog 145 #[.slice A0 l0.length c0] w fun e w' => e = .returned (.int .i64 r) ∧ Drawn0 w w' := by
 have HR0 := aM hr0; have HC0 := aM hc0; clear hr0 hc0
 unfold cmp_Or_int.f at h; have H := h; clear h
 have H' := aM H; clear H
 go_enter Try.func145, Try.ntmps145
 go_wp2
 go_loopg [8] k (fun kq v8 w' => ∃ (x8_1 : Int), v8 = .int .i64 x8_1 ∧ Aside0 (cmp_Or_int.l0 kq 0 l0 (l0.length : Int) x8_1 = some r) ∧ Aside0 (kq ≤ k) ∧ Drawn0 w w')
 case atStart => exact ⟨(0), eQ, H', ⟨Nat.le_refl _⟩, dQ⟩
 case round =>
  clear H'; obtain ⟨x8_1, rfl, HA, HK1, ⟨m1, rfl⟩⟩ := hrel
  cases gk with
  | zero => exact absurd HA.out (by simp [cmp_Or_int.l0])
  | succ k1 =>
   have H := HA.out; clear HA
   simp only [cmp_Or_int.l0] at H
   by_cases c2 : x8_1 < (l0.length : Int)
   ·rw [if_pos c2] at H; have c2b0 := dE c2; clear c2; replace H := iD H; obtain ⟨c3b0, H⟩ := H; replace H := iD H; obtain ⟨c4b0, H⟩ := H
    by_cases c5 : (rd l0 x8_1) = 0
    ·rw [if_pos c5] at H; have c5b0 : ((rd l0 x8_1) == 0) = true := beq_iff_eq.mpr c5; have c5b1 : ((rd l0 x8_1) != 0) = false := bne_eq_false_iff_eq.mpr c5; clear c5; have H' := aM H; clear H; have p249 : 0 ≤ (x8_1 : Int) := dT aQ; have q249 : x8_1 < (l0.length : Int) := dT aQ; obtain ⟨ad249, e249, hx249_0⟩ := Kd.at_int HR0.out x8_1 p249 q249
     cases e249
     replace p249 := eq_true p249; replace q249 := eq_true q249; go_wp2
     go_roundg k1
     case measure => have := HK1.out; omega
     case rel => exact ⟨(wrap64 (x8_1 + 1)), eQ, H', ⟨by have := HK1.out; omega⟩, dQ⟩
    ·rw [if_neg c5] at H; have c5b0 : ((rd l0 x8_1) == 0) = false := beq_eq_false_iff_ne.mpr c5; have c5b1 : ((rd l0 x8_1) != 0) = true := bne_iff_ne.mpr c5; obtain rfl := Option.some.inj H; have p249 : 0 ≤ (x8_1 : Int) := dT aQ; have q249 : x8_1 < (l0.length : Int) := dT aQ; obtain ⟨ad249, e249, hx249_0⟩ := Kd.at_int HR0.out x8_1 p249 q249
     cases e249
     replace p249 := eq_true p249; replace q249 := eq_true q249; go_wp2
     go_ret
     exact ⟨eQ, dQ⟩
   ·rw [if_neg c2] at H; have c2b0 := decide_eq_false c2; clear c2; obtain rfl := Option.some.inj H; go_wp2
    go_ret
    exact ⟨eQ, dQ⟩

def cmp_isNaN_int.f (a0 : Int) : Option (Bool) := some (a0 != a0)
set_option maxHeartbeats 8000000 in
set_option maxRecDepth 100000 in
theorem cmp_isNaN_int.calls (a0 : Int) (r : Bool) (w : World) (h : cmp_isNaN_int.f a0 = some r) :
  Calls Try.prog 147 #[.int .i64 a0] w fun e w' => e = .returned (.bool r) ∧ Drawn0 w w' := by
 unfold cmp_isNaN_int.f at h; have H := h; clear h
 obtain rfl := Option.some.inj H
 go_enter Try.func147, Try.ntmps147
 go_wp2
 go_ret
 exact ⟨eQ, dQ⟩

def cmp_Compare_int.f (a0 : Int) (a1 : Int) : Option (Int) := (cmp_isNaN_int.f a0).bind fun t250 => ((cmp_isNaN_int.f a1).bind fun t251 => (if t250 = true then (if t251 = true then (some 0) else (some (-1))) else (if t251 = true then (some 1) else (if a0 < a1 then (some (-1)) else (if a0 > a1 then (some 1) else (some 0))))))
set_option maxHeartbeats 8000000 in
set_option maxRecDepth 100000 in
theorem cmp_Compare_int.calls (a0 : Int) (a1 : Int) (r : Int) (w : World) (h : cmp_Compare_int.f a0 a1 = some r) :
  Calls Try.prog 146 #[.int .i64 a0, .int .i64 a1] w fun e w' => e = .returned (.int .i64 r) ∧ Drawn0 w w' := by
 unfold cmp_Compare_int.f at h; have H := h; clear h
 replace H := bS H; obtain ⟨t250, A3, H⟩ := H; replace H := bS H; obtain ⟨t251, A4, H⟩ := H
 by_cases c5 : t250 = true
 ·subst c5; replace H := iT H
  by_cases c6 : t251 = true
  ·subst c6; replace H := iT H; obtain rfl := Option.some.inj H
   go_enter Try.func146, Try.ntmps146
   go_wp2_with (first | ((with_reducible refine gC (f := 147) rfl ?_); refine goesL_ (some 8) rfl rfl Try.func147 kR rfl #[.int .i64 a0] rfl sQ ?_; (with_reducible refine (cmp_isNaN_int.calls a0 true _ A3.out).mono ?_); rintro e w' ⟨rfl, ⟨nd, rfl⟩⟩; refine ⟨_, rfl, ?_⟩) | ((with_reducible refine gC (f := 147) rfl ?_); refine goesL_ (some 10) rfl rfl Try.func147 kR rfl #[.int .i64 a1] rfl sQ ?_; (with_reducible refine (cmp_isNaN_int.calls a1 true _ A4.out).mono ?_); rintro e w' ⟨rfl, ⟨nd, rfl⟩⟩; refine ⟨_, rfl, ?_⟩))
   go_ret
   exact ⟨eQ, dQ⟩
  ·replace c6 := Bool.eq_false_iff.mpr c6; subst c6; replace H := iF H; obtain rfl := Option.some.inj H
   go_enter Try.func146, Try.ntmps146
   go_wp2_with (first | ((with_reducible refine gC (f := 147) rfl ?_); refine goesL_ (some 8) rfl rfl Try.func147 kR rfl #[.int .i64 a0] rfl sQ ?_; (with_reducible refine (cmp_isNaN_int.calls a0 true _ A3.out).mono ?_); rintro e w' ⟨rfl, ⟨nd, rfl⟩⟩; refine ⟨_, rfl, ?_⟩) | ((with_reducible refine gC (f := 147) rfl ?_); refine goesL_ (some 10) rfl rfl Try.func147 kR rfl #[.int .i64 a1] rfl sQ ?_; (with_reducible refine (cmp_isNaN_int.calls a1 false _ A4.out).mono ?_); rintro e w' ⟨rfl, ⟨nd, rfl⟩⟩; refine ⟨_, rfl, ?_⟩))
   go_ret
   exact ⟨eQ, dQ⟩
 ·replace c5 := Bool.eq_false_iff.mpr c5; subst c5; replace H := iF H
  by_cases c7 : t251 = true
  ·subst c7; replace H := iT H; obtain rfl := Option.some.inj H
   go_enter Try.func146, Try.ntmps146
   go_wp2_with (first | ((with_reducible refine gC (f := 147) rfl ?_); refine goesL_ (some 8) rfl rfl Try.func147 kR rfl #[.int .i64 a0] rfl sQ ?_; (with_reducible refine (cmp_isNaN_int.calls a0 false _ A3.out).mono ?_); rintro e w' ⟨rfl, ⟨nd, rfl⟩⟩; refine ⟨_, rfl, ?_⟩) | ((with_reducible refine gC (f := 147) rfl ?_); refine goesL_ (some 10) rfl rfl Try.func147 kR rfl #[.int .i64 a1] rfl sQ ?_; (with_reducible refine (cmp_isNaN_int.calls a1 true _ A4.out).mono ?_); rintro e w' ⟨rfl, ⟨nd, rfl⟩⟩; refine ⟨_, rfl, ?_⟩))
   go_ret
   exact ⟨eQ, dQ⟩
  ·replace c7 := Bool.eq_false_iff.mpr c7; subst c7; replace H := iF H
   by_cases c8 : a0 < a1
   ·rw [if_pos c8] at H; have c8b0 := dE c8; clear c8; obtain rfl := Option.some.inj H
    go_enter Try.func146, Try.ntmps146
    go_wp2_with (first | ((with_reducible refine gC (f := 147) rfl ?_); refine goesL_ (some 8) rfl rfl Try.func147 kR rfl #[.int .i64 a0] rfl sQ ?_; (with_reducible refine (cmp_isNaN_int.calls a0 false _ A3.out).mono ?_); rintro e w' ⟨rfl, ⟨nd, rfl⟩⟩; refine ⟨_, rfl, ?_⟩) | ((with_reducible refine gC (f := 147) rfl ?_); refine goesL_ (some 10) rfl rfl Try.func147 kR rfl #[.int .i64 a1] rfl sQ ?_; (with_reducible refine (cmp_isNaN_int.calls a1 false _ A4.out).mono ?_); rintro e w' ⟨rfl, ⟨nd, rfl⟩⟩; refine ⟨_, rfl, ?_⟩))
    go_ret
    exact ⟨eQ, dQ⟩
   ·rw [if_neg c8] at H; have c8b0 := decide_eq_false c8; clear c8
    by_cases c9 : a0 > a1
    ·rw [if_pos c9] at H; have c9b0 := dE c9; clear c9; obtain rfl := Option.some.inj H
     go_enter Try.func146, Try.ntmps146
     go_wp2_with (first | ((with_reducible refine gC (f := 147) rfl ?_); refine goesL_ (some 8) rfl rfl Try.func147 kR rfl #[.int .i64 a0] rfl sQ ?_; (with_reducible refine (cmp_isNaN_int.calls a0 false _ A3.out).mono ?_); rintro e w' ⟨rfl, ⟨nd, rfl⟩⟩; refine ⟨_, rfl, ?_⟩) | ((with_reducible refine gC (f := 147) rfl ?_); refine goesL_ (some 10) rfl rfl Try.func147 kR rfl #[.int .i64 a1] rfl sQ ?_; (with_reducible refine (cmp_isNaN_int.calls a1 false _ A4.out).mono ?_); rintro e w' ⟨rfl, ⟨nd, rfl⟩⟩; refine ⟨_, rfl, ?_⟩))
     go_ret
     exact ⟨eQ, dQ⟩
    ·rw [if_neg c9] at H; have c9b0 := decide_eq_false c9; clear c9; obtain rfl := Option.some.inj H
     go_enter Try.func146, Try.ntmps146
     go_wp2_with (first | ((with_reducible refine gC (f := 147) rfl ?_); refine goesL_ (some 8) rfl rfl Try.func147 kR rfl #[.int .i64 a0] rfl sQ ?_; (with_reducible refine (cmp_isNaN_int.calls a0 false _ A3.out).mono ?_); rintro e w' ⟨rfl, ⟨nd, rfl⟩⟩; refine ⟨_, rfl, ?_⟩) | ((with_reducible refine gC (f := 147) rfl ?_); refine goesL_ (some 10) rfl rfl Try.func147 kR rfl #[.int .i64 a1] rfl sQ ?_; (with_reducible refine (cmp_isNaN_int.calls a1 false _ A4.out).mono ?_); rintro e w' ⟨rfl, ⟨nd, rfl⟩⟩; refine ⟨_, rfl, ?_⟩))
     go_ret
     exact ⟨eQ, dQ⟩

def impl_comparePegs.f (k : Nat) (a0_0 : Int) (a0_1 : Int) (a1_0 : Int) (a1_1 : Int) : Option (Int) := (cmp_Compare_int.f a0_0 a1_0).bind fun t254 => ((cmp_Compare_int.f a0_1 a1_1).bind fun t255 => ((cmp_Or_int.f k (([t254, t255] : List Int))).bind fun t259 => (some t259)))
theorem impl_comparePegs.mono : ∀ a0 a1 a2 a3 k, LeO (impl_comparePegs.f k a0 a1 a2 a3) (impl_comparePegs.f (k + 1) a0 a1 a2 a3) := by
 intro a0 a1 a2 a3 k
 unfold impl_comparePegs.f
 repeat' first | (with_reducible exact cmp_Or_int.mono _ _) | (with_reducible exact LeO.refl _) | (with_reducible exact LeO.none _) | (with_reducible refine LeO.ite ?_ ?_) | (with_reducible refine LeO.bind ?_ (fun _ => ?_)) | exact cmp_Or_int.mono _ _ | exact LeO.none _ | refine LeO.ite ?_ ?_ | refine LeO.bind ?_ (fun _ => ?_)
def impl_comparePegs.T1 : Bool × List (List Nat × List Nat) := (true, [([], []), ([0], [0]), ([], []), ([2], [2]), ([1, 3], [1, 3]), ([], []), ([5], [5]), ([], []), ([7], [7]), ([6, 8, 4], [6, 8]), ([4, 9], [4, 9]), ([10, 9], [10]), ([11, 11, 0, 1, 2, 3, 4, 5, 6, 7, 8, 9, 10, 11], [11])])
def impl_comparePegs.B1 : List Nat := [0, 1, 0, 4, 15, 0, 32, 0, 128, 511, 1023, 2047, 4095]
theorem impl_comparePegs.tab1 : rtab .any (opsOf Try.f140 1) = impl_comparePegs.T1 := by kernel_rfl
theorem impl_comparePegs.bits1 : waitsOk impl_comparePegs.T1.2 impl_comparePegs.B1 = true := by kernel_rfl
set_option maxHeartbeats 8000000 in
set_option maxRecDepth 100000 in
theorem impl_comparePegs.calls (k : Nat) (a0_0 : Int) (a0_1 : Int) (a1_0 : Int) (a1_1 : Int) (r : Int) (w : World) (h : impl_comparePegs.f k a0_0 a0_1 a1_0 a1_1 = some r) :
  Calls Try.prog 140 #[.agg #[.int .i64 a0_0, .int .i64 a0_1], .agg #[.int .i64 a1_0, .int .i64 a1_1]] w fun e w' => e = .returned (.int .i64 r) ∧ Below w.heap.size w w' := by
 have hu26 := Try.underlying26; have HB := aM (Below.refl w.heap.size w)
 unfold impl_comparePegs.f at h; have H := h; clear h
 replace H := bS H; obtain ⟨t254, A3, H⟩ := H; replace H := bS H; obtain ⟨t255, A4, H⟩ := H; obtain ⟨y256, hy256⟩ : ∃ y_ : List Int, y_ = (([t254, t255] : List Int)) := ⟨_, rfl⟩; rw [← hy256] at H; have Ny256 := aM hy256; clear hy256; replace H := bS H; obtain ⟨t259, A5, H⟩ := H; obtain rfl := Option.some.inj H
 go_enter Try.func140, Try.ntmps140
 try go_wp2_with (first | ((with_reducible refine gate_dst (N := 2) rfl ?_); refine bV 2 (cs := #[.int .i64 a0_0, .int .i64 a0_1]) (t := 26) rfl rfl (by first | (go_simp; done) | (go_simp; rfl)) ?_; intro gb252 hg w6 hbox hb; have BK252 := hbox; have GW252 := gZ HB hg; have GE252 := gZ HB hg; replace HB := tB HB hb; clear hb hbox hg) | ((with_reducible refine gate_dst (N := 3) rfl ?_); refine bV 3 (cs := #[.int .i64 a1_0, .int .i64 a1_1]) (t := 26) rfl rfl (by first | (go_simp; done) | (go_simp; rfl)) ?_; intro gb253 hg w7 hbox hb; have BK253 := hbox; have GW253 := gZ HB hg; have GE253 := gZ HB hg; have NB252_253 := nG BK252 hg; have NB253_252 := nH BK252 hg; replace BK252 := bB BK252 hb; replace HB := tB HB hb; clear hb hbox hg))
 replace BK252 := aM (kD BK252.out); replace BK253 := aM (kD BK253.out); replace HB := aM (pD HB.out)
 refine start_ (n := 13) (S := fun w' => w'.cell? ⟨gb252, 0, none⟩ = some (.int .i64 a0_0) ∧ w'.cell? ⟨gb252, 1, none⟩ = some (.int .i64 a0_1) ∧ w'.cell? ⟨gb253, 0, none⟩ = some (.int .i64 a1_0) ∧ w'.cell? ⟨gb253, 1, none⟩ = some (.int .i64 a1_1)) (ds := []) (bA 13 0) kR rfl kR ⟨vZ0 BK252, vZ1 BK252, vZ0 BK253, vZ1 BK253⟩ (fun hHeld => ?_); refine with_tabW impl_comparePegs.tab1 impl_comparePegs.bits1 (fun HT_ HW_ => ?_)
 generalize w7.drew = w8 at BK252 BK253 HB hHeld ⊢
 refine pU 0 5 (bA 13 1) HT_ ?_; refine pU 2 7 (bA 13 5) HT_ ?_; refine pU 5 10 (bA 13 37) HT_ ?_; refine pU 7 12 (bA 13 165) HT_ ?_
 refine tU 1 6 (bA 13 167) HT_ HW_ hHeld ?_ (hy := Or.inl ⟨by rfl, by rintro w' ⟨s0, s1, s2, s3⟩; go_simp; with_reducible rfl⟩)
 refine tU 3 8 (bA 13 175) HT_ HW_ hHeld ?_ (hy := Or.inl ⟨by rfl, by rintro w' ⟨s0, s1, s2, s3⟩; go_simp; with_reducible rfl⟩)
 refine tU 6 11 (bA 13 239) HT_ HW_ hHeld ?_ (hy := Or.inl ⟨by rfl, by rintro w' ⟨s0, s1, s2, s3⟩; go_simp; with_reducible rfl⟩)
 refine tU 8 13 (bA 13 495) HT_ HW_ hHeld ?_ (hy := Or.inl ⟨by rfl, by rintro w' ⟨s0, s1, s2, s3⟩; go_simp; with_reducible rfl⟩)
 refine oU 4 9 (bA 13 511) HT_ (fun K hK => ?_)
 refine goes_ Try.func146 kR rfl #[.int .i64 a0_0, .int .i64 a1_0] (by rfl) rfl rfl sQ ?_
 with_reducible refine (cmp_Compare_int.calls a0_0 a1_0 t254 _ A3.out).mono ?_
 rintro e w' ⟨rfl, ⟨nd, rfl⟩⟩; refine ⟨_, rfl, ?_⟩
 refine hK.out _ _ ⟨vZ0 BK252, vZ1 BK252, vZ0 BK253, vZ1 BK253⟩ (fun hHeld => ?_)
 clear hK K
 refine nU ?_
 refine oU 9 14 (bA 13 1023) HT_ (fun K hK => ?_)
 refine goes_ Try.func146 kR rfl #[.int .i64 a0_1, .int .i64 a1_1] (by rfl) rfl rfl sQ ?_
 with_reducible refine (cmp_Compare_int.calls a0_1 a1_1 t255 _ A4.out).mono ?_
 rintro e w' ⟨rfl, ⟨nd, rfl⟩⟩; refine ⟨_, rfl, ?_⟩
 refine hK.out _ _ ⟨vZ0 BK252, vZ1 BK252, vZ0 BK253, vZ1 BK253⟩ (fun hHeld => ?_)
 clear hK K
 refine nU ?_
 refine oU 10 15 (bA 13 2047) HT_ (fun K hK => ?_)
 refine Kd.R_lit_step (Kd.int .i64) _ 3 ?hg (N := 15) ?hd (xs := ([t254, t255] : List Int)) (inner := [.int .i64 t254, .int .i64 t255]) (ok := fun _ => True) (okp := fun _ => True) ?hr ?hp (fun _ hk => hk) trivial (Below.refl _ _) (Nat.le_refl _) (by simp) ?_; (case hd => rfl); (case hg => rfl); (case hr => first | (go_simp; done) | (go_simp; rfl)); (case hp => exact (Reps.one (show Kd.M (Kd.int .i64) _ _ _ t254 [.int .i64 t254] from rfl) (Reps.one (show Kd.M (Kd.int .i64) _ _ _ t255 [.int .i64 t255] from rfl) (Reps.none _ _))))
 intro v257 w9 ho10 hb hg_ hnew_
 clear hg_ hnew_
 (first | rw [← Ny256.out] at ho10 | (simp only [Int.reduceToNat] at ho10; rw [← Ny256.out] at ho10))
 have HO258 := aM (Kd.R_lower ho10 (pZ bE)); replace BK252 := bB BK252 hb; replace BK253 := bB BK253 hb; replace HB := tB HB hb; clear hb ho10; obtain ⟨Ao11, co11, eo11⟩ := Kd.R_slice HO258.out
 (first | subst eo11 | (injection eo11 with f1_ f2_ f3_; have f4_ := f1_.symm; have f5_ := f3_.symm; clear f1_ f2_ f3_; subst f4_; subst f5_))
 refine hK.out _ _ ⟨vZ0 BK252, vZ1 BK252, vZ0 BK253, vZ1 BK253⟩ (fun hHeld => ?_)
 clear hK K
 refine nU ?_
 refine oU 11 16 (bA 13 4095) HT_ (fun K hK => ?_)
 refine goes_ Try.func145 kR rfl #[.slice Ao11 y256.length co11] (by rfl) rfl rfl sQ ?_
 with_reducible refine (cmp_Or_int.calls k _ _ y256 t259 _ ?side1 ?side2 A5.out).mono ?_
 (case side1 => repeat (first | exact (rR HO258.out).2.2 | (with_reducible refine cA ?_ _) | (with_reducible refine cN ?_ _) | (with_reducible refine cD ?_)))
 (case side2 => exact (rR HO258.out).2.1)
 rintro e w' ⟨rfl, ⟨nd, rfl⟩⟩; refine ⟨_, rfl, ?_⟩
 refine hK.out _ _ ⟨vZ0 BK252, vZ1 BK252, vZ0 BK253, vZ1 BK253⟩ (fun hHeld => ?_)
 clear hK K
 refine nU ?_
 refine pU 12 4 (bA 13 8191) HT_ ?_
 refine done_ (done_of HT_.out kR) ?_
 try go_wp2
 go_ret
 exact ⟨wQ, bE⟩

end Go.Proofs.Ytklhakfmegbobaa.X
