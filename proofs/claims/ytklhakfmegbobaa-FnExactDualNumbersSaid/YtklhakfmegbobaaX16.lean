-- thin
-- short
-- compact
import Derived.Test.YtklhakfmegbobaaXA
import Derived.Test.YtklhakfmegbobaaX0
namespace Go.Proofs.Ytklhakfmegbobaa.X
open Go.RowKit Go.Proofs.Ytklhakfmegbobaa.XW Go.Proofs.YtklhakfmegbobaaW.PrintWords Go.Proofs.YtklhakfmegbobaaW.PrintLast Go.Proofs.YtklhakfmegbobaaW.PrintMore
attribute [local go_sem] max2_int min2_int max_two min_two max_three min_three max_four min_four   -- for this text's walks alone
set_option linter.unusedVariables false
set_option linter.unusedSimpArgs false

def spec_l1Most.f (a0 : Int) (a1 : Int) : Option (Int) := if a0 > a1 then (some a0) else (some a1)
set_option maxHeartbeats 8000000 in
set_option maxRecDepth 100000 in
theorem spec_l1Most.calls (a0 : Int) (a1 : Int) (r : Int) (w : World) (h : spec_l1Most.f a0 a1 = some r) :
  Calls Try.prog 141 #[.int .i64 a0, .int .i64 a1] w fun e w' => e = .returned (.int .i64 r) ∧ Drawn0 w w' := by
 unfold spec_l1Most.f at h; have H := h; clear h
 by_cases c3 : a0 > a1
 ·rw [if_pos c3] at H; have c3b0 := dE c3; clear c3; obtain rfl := Option.some.inj H
  go_enter Try.func141, Try.ntmps141
  go_wp2
  go_ret
  exact ⟨eQ, dQ⟩
 ·rw [if_neg c3] at H; have c3b0 := decide_eq_false c3; clear c3; obtain rfl := Option.some.inj H
  go_enter Try.func141, Try.ntmps141
  go_wp2
  go_ret
  exact ⟨eQ, dQ⟩

def spec_l1Abs.f (a0 : Int) : Option (Int) := (spec_l1Most.f a0 (wrap64 (-a0))).bind fun t340 => (some t340)
set_option maxHeartbeats 8000000 in
set_option maxRecDepth 100000 in
theorem spec_l1Abs.calls (a0 : Int) (r : Int) (w : World) (h : spec_l1Abs.f a0 = some r) :
  Calls Try.prog 127 #[.int .i64 a0] w fun e w' => e = .returned (.int .i64 r) ∧ Drawn0 w w' := by
 unfold spec_l1Abs.f at h; have H := h; clear h
 replace H := bS H; obtain ⟨t340, A2, H⟩ := H; obtain rfl := Option.some.inj H
 go_enter Try.func127, Try.ntmps127
 go_wp2_with (first | ((with_reducible refine gC (f := 141) rfl ?_); refine goesL_ (some 6) rfl rfl Try.func141 kR rfl #[.int .i64 a0, .int .i64 (wrap64 (-a0))] rfl sQ ?_; (with_reducible refine (spec_l1Most.calls a0 (wrap64 (-a0)) t340 _ A2.out).mono ?_); rintro e w' ⟨rfl, ⟨nd, rfl⟩⟩; refine ⟨_, rfl, ?_⟩))
 go_ret
 exact ⟨eQ, dQ⟩

def spec_pgCommon.l0 : Nat → Int → Int → Option (Int)
 | 0, _, _ => none
 | k + 1, x0, x1 => if x1 > 0 then (if x1 = 0 then (none) else (spec_pgCommon.l0 k x1 (Int.tmod x0 x1))) else (some x0)
def spec_pgCommon.f (k : Nat) (a0 : Int) (a1 : Int) : Option (Int) := (spec_l1Abs.f a0).bind fun t341 => ((spec_l1Abs.f a1).bind fun t342 => (spec_pgCommon.l0 k t341 t342))
theorem spec_pgCommon.mono_l : ∀ k, (∀ y0 y1, LeO (spec_pgCommon.l0 k y0 y1) (spec_pgCommon.l0 (k + 1) y0 y1))
 | 0 => fun _ _ r h => by simp [spec_pgCommon.l0] at h
 | k + 1 => by
  have ih0 := spec_pgCommon.mono_l k
  ·intro y0 y1
   unfold spec_pgCommon.l0
   repeat' first
   | (with_reducible exact ih0 _ _)
   | (with_reducible exact LeO.refl _)
   | (with_reducible exact LeO.none _)
   | (with_reducible refine LeO.ite ?_ ?_)
   | (with_reducible refine LeO.bind ?_ (fun _ => ?_))
   | exact ih0 _ _
   | exact LeO.none _
   | refine LeO.ite ?_ ?_
   | refine LeO.bind ?_ (fun _ => ?_)
theorem spec_pgCommon.mono : ∀ a0 a1 k, LeO (spec_pgCommon.f k a0 a1) (spec_pgCommon.f (k + 1) a0 a1) := by
 intro a0 a1 k
 have ih0 := spec_pgCommon.mono_l k
 unfold spec_pgCommon.f
 repeat' first | (with_reducible exact ih0 _ _) | (with_reducible exact LeO.refl _) | (with_reducible exact LeO.none _) | (with_reducible refine LeO.ite ?_ ?_) | (with_reducible refine LeO.bind ?_ (fun _ => ?_)) | exact ih0 _ _ | exact LeO.none _ | refine LeO.ite ?_ ?_ | refine LeO.bind ?_ (fun _ => ?_)
set_option maxHeartbeats 8000000 in
set_option maxRecDepth 100000 in
theorem spec_pgCommon.calls (k : Nat) (a0 : Int) (a1 : Int) (r : Int) (w : World) (h : spec_pgCommon.f k a0 a1 = some r) :
  Calls Try.prog 142 #[.int .i64 a0, .int .i64 a1] w fun e w' => e = .returned (.int .i64 r) ∧ Drawn0 w w' := by
 unfold spec_pgCommon.f at h; have H := h; clear h
 replace H := bS H; obtain ⟨t341, A3, H⟩ := H; replace H := bS H; obtain ⟨t342, A4, H⟩ := H; have H' := aM H; clear H
 go_enter Try.func142, Try.ntmps142
 go_wp2_with (first | (go_at_call 127; (with_reducible refine (spec_l1Abs.calls a0 t341 _ A3.out).mono ?_); rintro e w' ⟨rfl, ⟨nd, rfl⟩⟩; (try first | exact ⟨rfl, _, World.drewN_drewN _ _ _⟩ | exact ⟨rfl, _, Eq.trans (World.drewN_drewN _ _ _) (congrArg (World.drewN _) (Nat.add_assoc _ _ _))⟩)) | (go_at_call 127; (with_reducible refine (spec_l1Abs.calls a1 t342 _ A4.out).mono ?_); rintro e w' ⟨rfl, ⟨nd, rfl⟩⟩; (try first | exact ⟨rfl, _, World.drewN_drewN _ _ _⟩ | exact ⟨rfl, _, Eq.trans (World.drewN_drewN _ _ _) (congrArg (World.drewN _) (Nat.add_assoc _ _ _))⟩)))
 repeat (go_quiet (first | (go_at_call 127; (with_reducible refine (spec_l1Abs.calls a0 t341 _ A3.out).mono ?_); rintro e w' ⟨rfl, ⟨nd, rfl⟩⟩; (try first | exact ⟨rfl, _, World.drewN_drewN _ _ _⟩ | exact ⟨rfl, _, Eq.trans (World.drewN_drewN _ _ _) (congrArg (World.drewN _) (Nat.add_assoc _ _ _))⟩)) | (go_at_call 127; (with_reducible refine (spec_l1Abs.calls a1 t342 _ A4.out).mono ?_); rintro e w' ⟨rfl, ⟨nd, rfl⟩⟩; (try first | exact ⟨rfl, _, World.drewN_drewN _ _ _⟩ | exact ⟨rfl, _, Eq.trans (World.drewN_drewN _ _ _) (congrArg (World.drewN _) (Nat.add_assoc _ _ _))⟩))); try go_wp2_with (first | (go_at_call 127; (with_reducible refine (spec_l1Abs.calls a0 t341 _ A3.out).mono ?_); rintro e w' ⟨rfl, ⟨nd, rfl⟩⟩; (try first | exact ⟨rfl, _, World.drewN_drewN _ _ _⟩ | exact ⟨rfl, _, Eq.trans (World.drewN_drewN _ _ _) (congrArg (World.drewN _) (Nat.add_assoc _ _ _))⟩)) | (go_at_call 127; (with_reducible refine (spec_l1Abs.calls a1 t342 _ A4.out).mono ?_); rintro e w' ⟨rfl, ⟨nd, rfl⟩⟩; (try first | exact ⟨rfl, _, World.drewN_drewN _ _ _⟩ | exact ⟨rfl, _, Eq.trans (World.drewN_drewN _ _ _) (congrArg (World.drewN _) (Nat.add_assoc _ _ _))⟩))))
 go_loopg [0, 1] k (fun kq v0 v1 w' => ∃ (x0_1 : Int) (x1_1 : Int), v0 = .int .i64 x0_1 ∧ v1 = .int .i64 x1_1 ∧ Aside0 (spec_pgCommon.l0 kq x0_1 x1_1 = some r) ∧ Aside0 (kq ≤ k) ∧ Drawn0 w w')
 case atStart => exact ⟨(t341), (t342), eQ, eQ, H', ⟨Nat.le_refl _⟩, dQ⟩
 case round =>
  clear H'; obtain ⟨x0_1, x1_1, rfl, rfl, HA, HK1, ⟨m1, rfl⟩⟩ := hrel
  cases gk with
  | zero => exact absurd HA.out (by simp [spec_pgCommon.l0])
  | succ k1 =>
   have H := HA.out; clear HA
   simp only [spec_pgCommon.l0] at H
   by_cases c5 : x1_1 > 0
   ·rw [if_pos c5] at H; have c5b0 := dE c5; clear c5; replace H := iM H; obtain ⟨c6, H⟩ := H; have c6b0 : (x1_1 == 0) = false := beq_eq_false_iff_ne.mpr c6; have c6b1 : (x1_1 != 0) = true := bne_iff_ne.mpr c6; have H' := aM H; clear H; go_wp2
    repeat (go_quiet (fail); try go_wp2)
    go_roundg k1
    case measure => have := HK1.out; omega
    case rel => exact ⟨(x1_1), (Int.tmod x0_1 x1_1), eQ, eQ, H', ⟨by have := HK1.out; omega⟩, dQ⟩
   ·rw [if_neg c5] at H; have c5b0 := decide_eq_false c5; clear c5; obtain rfl := Option.some.inj H; go_wp2
    repeat (go_quiet (fail); try go_wp2)
    go_ret
    exact ⟨eQ, dQ⟩

def spec_pgStep.f (k : Nat) (a0_0 : Int) (a0_1 : Int) (a1_0 : Int) (a1_1 : Int) : Option (Int) := (spec_pgCommon.f k (wrap64 (a0_0 - a1_0)) (wrap64 (a0_1 - a1_1))).bind fun t345 => (some t345)
theorem spec_pgStep.mono : ∀ a0 a1 a2 a3 k, LeO (spec_pgStep.f k a0 a1 a2 a3) (spec_pgStep.f (k + 1) a0 a1 a2 a3) := by
 intro a0 a1 a2 a3 k
 unfold spec_pgStep.f
 repeat' first | (with_reducible exact spec_pgCommon.mono _ _ _) | (with_reducible exact LeO.refl _) | (with_reducible exact LeO.none _) | (with_reducible refine LeO.ite ?_ ?_) | (with_reducible refine LeO.bind ?_ (fun _ => ?_)) | exact spec_pgCommon.mono _ _ _ | exact LeO.none _ | refine LeO.ite ?_ ?_ | refine LeO.bind ?_ (fun _ => ?_)
set_option maxHeartbeats 8000000 in
set_option maxRecDepth 100000 in
theorem spec_pgStep.calls (k : Nat) (a0_0 : Int) (a0_1 : Int) (a1_0 : Int) (a1_1 : Int) (r : Int) (w : World) (h : spec_pgStep.f k a0_0 a0_1 a1_0 a1_1 = some r) :
  Calls Try.prog 134 #[.agg #[.int .i64 a0_0, .int .i64 a0_1], .agg #[.int .i64 a1_0, .int .i64 a1_1]] w fun e w' => e = .returned (.int .i64 r) ∧ Below w.heap.size w w' := by
 have hu26 := Try.underlying26; have HB := aM (Below.refl w.heap.size w)
 unfold spec_pgStep.f at h; have H := h; clear h
 replace H := bS H; obtain ⟨t345, A3, H⟩ := H; obtain rfl := Option.some.inj H
 go_enter Try.func134, Try.ntmps134
 go_wp2_with (first | ((with_reducible refine gate_dst (N := 2) rfl ?_); refine bV 2 (cs := #[.int .i64 a0_0, .int .i64 a0_1]) (t := 26) rfl rfl (by first | (go_simp; done) | (go_simp; rfl)) ?_; intro gb343 hg w4 hbox hb; have BK343 := hbox; have GW343 := gZ HB hg; have GE343 := gZ HB hg; replace HB := tB HB hb; clear hb hbox hg) | ((with_reducible refine gate_dst (N := 3) rfl ?_); refine bV 3 (cs := #[.int .i64 a1_0, .int .i64 a1_1]) (t := 26) rfl rfl (by first | (go_simp; done) | (go_simp; rfl)) ?_; intro gb344 hg w5 hbox hb; have BK344 := hbox; have GW344 := gZ HB hg; have GE344 := gZ HB hg; have NB343_344 := nG BK343 hg; have NB344_343 := nH BK343 hg; replace BK343 := bB BK343 hb; replace HB := tB HB hb; clear hb hbox hg; have hnb6 := NB343_344.out; have hnc6 := NB344_343.out; have hcz7_0 := vZ0 BK343; have hcz7_1 := vZ1 BK343; have hfz7_0 := kF BK343.out 0; have hfz7_1 := kF BK343.out 1; have hcz8_0 := vZ0 BK344; have hcz8_1 := vZ1 BK344; have hfz8_0 := kF BK344.out 0; have hfz8_1 := kF BK344.out 1) | ((with_reducible refine gC (f := 142) rfl ?_); refine goesL_ (some 15) rfl rfl Try.func142 kR rfl #[.int .i64 (wrap64 (a0_0 - a1_0)), .int .i64 (wrap64 (a0_1 - a1_1))] rfl sQ ?_; (with_reducible refine (spec_pgCommon.calls k (wrap64 (a0_0 - a1_0)) (wrap64 (a0_1 - a1_1)) t345 _ A3.out).mono ?_); rintro e w' ⟨rfl, ⟨nd, rfl⟩⟩; refine ⟨_, rfl, ?_⟩))
 go_ret
 exact ⟨wQ, bE⟩

end Go.Proofs.Ytklhakfmegbobaa.X
