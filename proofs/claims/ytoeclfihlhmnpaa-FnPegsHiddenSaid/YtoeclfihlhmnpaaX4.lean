-- thin
-- short
-- compact
import Derived.Test.YtoeclfihlhmnpaaXA
import Derived.Test.YtoeclfihlhmnpaaX0
import Derived.Test.YtoeclfihlhmnpaaX3
namespace Go.Proofs.Ytoeclfihlhmnpaa.X
open Go.RowKit Go.Proofs.Ytoeclfihlhmnpaa.XW Go.Proofs.YtoeclfihlhmnpaaW.PrintWords Go.Proofs.YtoeclfihlhmnpaaW.PrintLast Go.Proofs.YtoeclfihlhmnpaaW.PrintMore
attribute [local go_sem] max2_int min2_int max_two min_two max_three min_three max_four min_four   -- for this text's walks alone
set_option linter.unusedVariables false
set_option linter.unusedSimpArgs false

def spec_pzOn.f (a0 : Int) (a1_0 : Int) (a1_1 : Int) : Option (Bool) := (spec_l1In.f a1_0 0 a0).bind fun t131 => (if t131 = true then ((spec_l1In.f a1_1 0 a0).bind fun t132 => (some t132)) else (some false))
set_option maxHeartbeats 8000000 in
set_option maxRecDepth 100000 in
theorem spec_pzOn.calls (a0 : Int) (a1_0 : Int) (a1_1 : Int) (r : Bool) (w : World) (h : spec_pzOn.f a0 a1_0 a1_1 = some r) :
  Calls Try.prog 58 #[.int .i64 a0, .agg #[.int .i64 a1_0, .int .i64 a1_1]] w fun e w' => e = .returned (.bool r) ∧ Below w.heap.size w w' := by
 have hu41 := Try.underlying41; have HB := aM (Below.refl w.heap.size w)
 unfold spec_pzOn.f at h; have H := h; clear h
 replace H := bS H; obtain ⟨t131, A3, H⟩ := H
 by_cases c4 : t131 = true
 ·subst c4; replace H := iT H; replace H := bS H; obtain ⟨t132, A5, H⟩ := H; obtain rfl := Option.some.inj H
  go_enter Try.func58, Try.ntmps58
  go_wp2_with (first | ((with_reducible refine gate_dst (N := 3) rfl ?_); refine bV 3 (cs := #[.int .i64 a1_0, .int .i64 a1_1]) (t := 41) rfl rfl (by first | (go_simp; done) | (go_simp; rfl)) ?_; intro gb130 hg w6 hbox hb; have BK130 := hbox; have GW130 := gZ HB hg; have GE130 := gZ HB hg; replace HB := tB HB hb; clear hb hbox hg; have hcz7_0 := vZ0 BK130; have hcz7_1 := vZ1 BK130; have hfz7_0 := kF BK130.out 0; have hfz7_1 := kF BK130.out 1) | ((with_reducible refine gC (f := 59) rfl ?_); refine goesL_ (some 8) rfl rfl Try.func59 kR rfl #[.int .i64 a1_0, .int .i64 0, .int .i64 a0] rfl sQ ?_; (with_reducible refine (spec_l1In.calls a1_0 0 a0 true _ A3.out).mono ?_); rintro e w' ⟨rfl, ⟨nd, rfl⟩⟩; refine ⟨_, rfl, ?_⟩) | (go_at_call 59; (with_reducible refine (spec_l1In.calls a1_1 0 a0 t132 _ A5.out).mono ?_); rintro e w' ⟨rfl, ⟨nd, rfl⟩⟩))
  go_ret
  exact ⟨wQ, bE⟩
 ·replace c4 := Bool.eq_false_iff.mpr c4; subst c4; replace H := iF H; obtain rfl := Option.some.inj H
  go_enter Try.func58, Try.ntmps58
  go_wp2_with (first | ((with_reducible refine gate_dst (N := 3) rfl ?_); refine bV 3 (cs := #[.int .i64 a1_0, .int .i64 a1_1]) (t := 41) rfl rfl (by first | (go_simp; done) | (go_simp; rfl)) ?_; intro gb130 hg w8 hbox hb; have BK130 := hbox; have GW130 := gZ HB hg; have GE130 := gZ HB hg; replace HB := tB HB hb; clear hb hbox hg; have hcz9_0 := vZ0 BK130; have hcz9_1 := vZ1 BK130; have hfz9_0 := kF BK130.out 0; have hfz9_1 := kF BK130.out 1) | ((with_reducible refine gC (f := 59) rfl ?_); refine goesL_ (some 8) rfl rfl Try.func59 kR rfl #[.int .i64 a1_0, .int .i64 0, .int .i64 a0] rfl sQ ?_; (with_reducible refine (spec_l1In.calls a1_0 0 a0 false _ A3.out).mono ?_); rintro e w' ⟨rfl, ⟨nd, rfl⟩⟩; refine ⟨_, rfl, ?_⟩))
  go_ret
  exact ⟨wQ, bE⟩

def spec_pzNext.f (a0 : Int) : Option (Int) := some (Int.tmod (wrap64 ((wrap64 (197 * a0)) + 3079)) 10009)
set_option maxHeartbeats 8000000 in
set_option maxRecDepth 100000 in
theorem spec_pzNext.calls (a0 : Int) (r : Int) (w : World) (h : spec_pzNext.f a0 = some r) :
  Calls Try.prog 60 #[.int .i64 a0] w fun e w' => e = .returned (.int .i64 r) ∧ Drawn0 w w' := by
 unfold spec_pzNext.f at h; have H := h; clear h
 obtain rfl := Option.some.inj H
 go_enter Try.func60, Try.ntmps60
 go_wp2
 go_ret
 exact ⟨eQ, dQ⟩

def spec_pgTurn.f (a0_0 : Int) (a0_1 : Int) (a1_0 : Int) (a1_1 : Int) (a2_0 : Int) (a2_1 : Int) : Option (Int) := some (wrap64 ((wrap64 ((wrap64 (a1_0 - a0_0)) * (wrap64 (a2_1 - a0_1)))) - (wrap64 ((wrap64 (a1_1 - a0_1)) * (wrap64 (a2_0 - a0_0))))))
set_option maxHeartbeats 8000000 in
set_option maxRecDepth 100000 in
theorem spec_pgTurn.calls (a0_0 : Int) (a0_1 : Int) (a1_0 : Int) (a1_1 : Int) (a2_0 : Int) (a2_1 : Int) (r : Int) (w : World) (h : spec_pgTurn.f a0_0 a0_1 a1_0 a1_1 a2_0 a2_1 = some r) :
  Calls Try.prog 80 #[.agg #[.int .i64 a0_0, .int .i64 a0_1], .agg #[.int .i64 a1_0, .int .i64 a1_1], .agg #[.int .i64 a2_0, .int .i64 a2_1]] w fun e w' => e = .returned (.int .i64 r) ∧ Below w.heap.size w w' := by
 have hu41 := Try.underlying41; have HB := aM (Below.refl w.heap.size w)
 unfold spec_pgTurn.f at h; have H := h; clear h
 obtain rfl := Option.some.inj H
 go_enter Try.func80, Try.ntmps80
 go_wp2_with (first | ((with_reducible refine gate_dst (N := 3) rfl ?_); refine bV 3 (cs := #[.int .i64 a0_0, .int .i64 a0_1]) (t := 41) rfl rfl (by first | (go_simp; done) | (go_simp; rfl)) ?_; intro gb133 hg w4 hbox hb; have BK133 := hbox; have GW133 := gZ HB hg; have GE133 := gZ HB hg; replace HB := tB HB hb; clear hb hbox hg) | ((with_reducible refine gate_dst (N := 4) rfl ?_); refine bV 4 (cs := #[.int .i64 a1_0, .int .i64 a1_1]) (t := 41) rfl rfl (by first | (go_simp; done) | (go_simp; rfl)) ?_; intro gb134 hg w5 hbox hb; have BK134 := hbox; have GW134 := gZ HB hg; have GE134 := gZ HB hg; have NB133_134 := nG BK133 hg; have NB134_133 := nH BK133 hg; replace BK133 := bB BK133 hb; replace HB := tB HB hb; clear hb hbox hg) | ((with_reducible refine gate_dst (N := 5) rfl ?_); refine bV 5 (cs := #[.int .i64 a2_0, .int .i64 a2_1]) (t := 41) rfl rfl (by first | (go_simp; done) | (go_simp; rfl)) ?_; intro gb135 hg w6 hbox hb; have BK135 := hbox; have GW135 := gZ HB hg; have GE135 := gZ HB hg; have NB133_135 := nG BK133 hg; have NB135_133 := nH BK133 hg; have NB134_135 := nG BK134 hg; have NB135_134 := nH BK134 hg; replace BK133 := bB BK133 hb; replace BK134 := bB BK134 hb; replace HB := tB HB hb; clear hb hbox hg; have hnb7 := NB134_133.out; have hnc7 := NB133_134.out; have hnb8 := NB134_135.out; have hnc8 := NB135_134.out; have hcz9_0 := vZ0 BK134; have hcz9_1 := vZ1 BK134; have hfz9_0 := kF BK134.out 0; have hfz9_1 := kF BK134.out 1; have hnb10 := NB133_135.out; have hnc10 := NB135_133.out; have hcz11_0 := vZ0 BK133; have hcz11_1 := vZ1 BK133; have hfz11_0 := kF BK133.out 0; have hfz11_1 := kF BK133.out 1; have hcz12_0 := vZ0 BK135; have hcz12_1 := vZ1 BK135; have hfz12_0 := kF BK135.out 0; have hfz12_1 := kF BK135.out 1))
 go_ret
 exact ⟨wQ, bE⟩

def spec_l1Most.f (a0 : Int) (a1 : Int) : Option (Int) := if a0 > a1 then (some a0) else (some a1)
set_option maxHeartbeats 8000000 in
set_option maxRecDepth 100000 in
theorem spec_l1Most.calls (a0 : Int) (a1 : Int) (r : Int) (w : World) (h : spec_l1Most.f a0 a1 = some r) :
  Calls Try.prog 119 #[.int .i64 a0, .int .i64 a1] w fun e w' => e = .returned (.int .i64 r) ∧ Drawn0 w w' := by
 unfold spec_l1Most.f at h; have H := h; clear h
 by_cases c3 : a0 > a1
 ·rw [if_pos c3] at H; have c3b0 := dE c3; clear c3; obtain rfl := Option.some.inj H
  go_enter Try.func119, Try.ntmps119
  go_wp2
  go_ret
  exact ⟨eQ, dQ⟩
 ·rw [if_neg c3] at H; have c3b0 := decide_eq_false c3; clear c3; obtain rfl := Option.some.inj H
  go_enter Try.func119, Try.ntmps119
  go_wp2
  go_ret
  exact ⟨eQ, dQ⟩

def spec_l1Abs.f (a0 : Int) : Option (Int) := (spec_l1Most.f a0 (wrap64 (-a0))).bind fun t136 => (some t136)
set_option maxHeartbeats 8000000 in
set_option maxRecDepth 100000 in
theorem spec_l1Abs.calls (a0 : Int) (r : Int) (w : World) (h : spec_l1Abs.f a0 = some r) :
  Calls Try.prog 111 #[.int .i64 a0] w fun e w' => e = .returned (.int .i64 r) ∧ Drawn0 w w' := by
 unfold spec_l1Abs.f at h; have H := h; clear h
 replace H := bS H; obtain ⟨t136, A2, H⟩ := H; obtain rfl := Option.some.inj H
 go_enter Try.func111, Try.ntmps111
 go_wp2_with (first | ((with_reducible refine gC (f := 119) rfl ?_); refine goesL_ (some 6) rfl rfl Try.func119 kR rfl #[.int .i64 a0, .int .i64 (wrap64 (-a0))] rfl sQ ?_; (with_reducible refine (spec_l1Most.calls a0 (wrap64 (-a0)) t136 _ A2.out).mono ?_); rintro e w' ⟨rfl, ⟨nd, rfl⟩⟩; refine ⟨_, rfl, ?_⟩))
 go_ret
 exact ⟨eQ, dQ⟩

def spec_bdFar.f (a0_0 : Int) (a0_1 : Int) (a1_0 : Int) (a1_1 : Int) : Option (Int) := some (wrap64 ((wrap64 ((wrap64 (a0_0 - a1_0)) * (wrap64 (a0_0 - a1_0)))) + (wrap64 ((wrap64 (a0_1 - a1_1)) * (wrap64 (a0_1 - a1_1))))))
set_option maxHeartbeats 8000000 in
set_option maxRecDepth 100000 in
theorem spec_bdFar.calls (a0_0 : Int) (a0_1 : Int) (a1_0 : Int) (a1_1 : Int) (r : Int) (w : World) (h : spec_bdFar.f a0_0 a0_1 a1_0 a1_1 = some r) :
  Calls Try.prog 112 #[.agg #[.int .i64 a0_0, .int .i64 a0_1], .agg #[.int .i64 a1_0, .int .i64 a1_1]] w fun e w' => e = .returned (.int .i64 r) ∧ Below w.heap.size w w' := by
 have hu41 := Try.underlying41; have HB := aM (Below.refl w.heap.size w)
 unfold spec_bdFar.f at h; have H := h; clear h
 obtain rfl := Option.some.inj H
 go_enter Try.func112, Try.ntmps112
 go_wp2_with (first | ((with_reducible refine gate_dst (N := 2) rfl ?_); refine bV 2 (cs := #[.int .i64 a0_0, .int .i64 a0_1]) (t := 41) rfl rfl (by first | (go_simp; done) | (go_simp; rfl)) ?_; intro gb137 hg w3 hbox hb; have BK137 := hbox; have GW137 := gZ HB hg; have GE137 := gZ HB hg; replace HB := tB HB hb; clear hb hbox hg) | ((with_reducible refine gate_dst (N := 3) rfl ?_); refine bV 3 (cs := #[.int .i64 a1_0, .int .i64 a1_1]) (t := 41) rfl rfl (by first | (go_simp; done) | (go_simp; rfl)) ?_; intro gb138 hg w4 hbox hb; have BK138 := hbox; have GW138 := gZ HB hg; have GE138 := gZ HB hg; have NB137_138 := nG BK137 hg; have NB138_137 := nH BK137 hg; replace BK137 := bB BK137 hb; replace HB := tB HB hb; clear hb hbox hg; have hnb5 := NB137_138.out; have hnc5 := NB138_137.out; have hcz6_0 := vZ0 BK137; have hcz6_1 := vZ1 BK137; have hfz6_0 := kF BK137.out 0; have hfz6_1 := kF BK137.out 1; have hcz7_0 := vZ0 BK138; have hcz7_1 := vZ1 BK138; have hfz7_0 := kF BK138.out 0; have hfz7_1 := kF BK138.out 1))
 go_ret
 exact ⟨wQ, bE⟩

def spec_pgCommon.l0 : Nat → Int → Int → Option (Int)
 | 0, _, _ => none
 | k + 1, x0, x1 => if x1 > 0 then (if x1 = 0 then (none) else (spec_pgCommon.l0 k x1 (Int.tmod x0 x1))) else (some x0)
def spec_pgCommon.f (k : Nat) (a0 : Int) (a1 : Int) : Option (Int) := (spec_l1Abs.f a0).bind fun t139 => ((spec_l1Abs.f a1).bind fun t140 => (spec_pgCommon.l0 k t139 t140))
theorem spec_pgCommon.mono_l : ∀ k, (∀ y0 y1, LeO (spec_pgCommon.l0 k y0 y1) (spec_pgCommon.l0 (k + 1) y0 y1))
 | 0 => fun _ _ r h => by simp [spec_pgCommon.l0] at h
 | k + 1 => by
  have ih0 := spec_pgCommon.mono_l k
  ·intro y0 y1
   unfold spec_pgCommon.l0
   repeat' first
   | (with_reducible exact ih0 _ _)
   | (with_reducible exact LeO.refl _)
   | (with_reducible exact LeO.none _)
   | (with_reducible refine LeO.ite ?_ ?_)
   | (with_reducible refine LeO.bind ?_ (fun _ => ?_))
   | exact ih0 _ _
   | exact LeO.none _
   | refine LeO.ite ?_ ?_
   | refine LeO.bind ?_ (fun _ => ?_)
theorem spec_pgCommon.mono : ∀ a0 a1 k, LeO (spec_pgCommon.f k a0 a1) (spec_pgCommon.f (k + 1) a0 a1) := by
 intro a0 a1 k
 have ih0 := spec_pgCommon.mono_l k
 unfold spec_pgCommon.f
 repeat' first | (with_reducible exact ih0 _ _) | (with_reducible exact LeO.refl _) | (with_reducible exact LeO.none _) | (with_reducible refine LeO.ite ?_ ?_) | (with_reducible refine LeO.bind ?_ (fun _ => ?_)) | exact ih0 _ _ | exact LeO.none _ | refine LeO.ite ?_ ?_ | refine LeO.bind ?_ (fun _ => ?_)
set_option maxHeartbeats 8000000 in
set_option maxRecDepth 100000 in
theorem spec_pgCommon.calls (k : Nat) (a0 : Int) (a1 : Int) (r : Int) (w : World) (h : spec_pgCommon.f k a0 a1 = some r) :
  Calls Try.prog 120 #[.int .i64 a0, .int .i64 a1] w fun e w' => e = .returned (.int .i64 r) ∧ Drawn0 w w' := by
 unfold spec_pgCommon.f at h; have H := h; clear h
 replace H := bS H; obtain ⟨t139, A3, H⟩ := H; replace H := bS H; obtain ⟨t140, A4, H⟩ := H; have H' := aM H; clear H
 go_enter Try.func120, Try.ntmps120
 go_wp2_with (first | (go_at_call 111; (with_reducible refine (spec_l1Abs.calls a0 t139 _ A3.out).mono ?_); rintro e w' ⟨rfl, ⟨nd, rfl⟩⟩; (try first | exact ⟨rfl, _, World.drewN_drewN _ _ _⟩ | exact ⟨rfl, _, Eq.trans (World.drewN_drewN _ _ _) (congrArg (World.drewN _) (Nat.add_assoc _ _ _))⟩)) | (go_at_call 111; (with_reducible refine (spec_l1Abs.calls a1 t140 _ A4.out).mono ?_); rintro e w' ⟨rfl, ⟨nd, rfl⟩⟩; (try first | exact ⟨rfl, _, World.drewN_drewN _ _ _⟩ | exact ⟨rfl, _, Eq.trans (World.drewN_drewN _ _ _) (congrArg (World.drewN _) (Nat.add_assoc _ _ _))⟩)))
 repeat (go_quiet (first | (go_at_call 111; (with_reducible refine (spec_l1Abs.calls a0 t139 _ A3.out).mono ?_); rintro e w' ⟨rfl, ⟨nd, rfl⟩⟩; (try first | exact ⟨rfl, _, World.drewN_drewN _ _ _⟩ | exact ⟨rfl, _, Eq.trans (World.drewN_drewN _ _ _) (congrArg (World.drewN _) (Nat.add_assoc _ _ _))⟩)) | (go_at_call 111; (with_reducible refine (spec_l1Abs.calls a1 t140 _ A4.out).mono ?_); rintro e w' ⟨rfl, ⟨nd, rfl⟩⟩; (try first | exact ⟨rfl, _, World.drewN_drewN _ _ _⟩ | exact ⟨rfl, _, Eq.trans (World.drewN_drewN _ _ _) (congrArg (World.drewN _) (Nat.add_assoc _ _ _))⟩))); try go_wp2_with (first | (go_at_call 111; (with_reducible refine (spec_l1Abs.calls a0 t139 _ A3.out).mono ?_); rintro e w' ⟨rfl, ⟨nd, rfl⟩⟩; (try first | exact ⟨rfl, _, World.drewN_drewN _ _ _⟩ | exact ⟨rfl, _, Eq.trans (World.drewN_drewN _ _ _) (congrArg (World.drewN _) (Nat.add_assoc _ _ _))⟩)) | (go_at_call 111; (with_reducible refine (spec_l1Abs.calls a1 t140 _ A4.out).mono ?_); rintro e w' ⟨rfl, ⟨nd, rfl⟩⟩; (try first | exact ⟨rfl, _, World.drewN_drewN _ _ _⟩ | exact ⟨rfl, _, Eq.trans (World.drewN_drewN _ _ _) (congrArg (World.drewN _) (Nat.add_assoc _ _ _))⟩))))
 go_loopg [0, 1] k (fun kq v0 v1 w' => ∃ (x0_1 : Int) (x1_1 : Int), v0 = .int .i64 x0_1 ∧ v1 = .int .i64 x1_1 ∧ Aside0 (spec_pgCommon.l0 kq x0_1 x1_1 = some r) ∧ Aside0 (kq ≤ k) ∧ Drawn0 w w')
 case atStart => exact ⟨(t139), (t140), eQ, eQ, H', ⟨Nat.le_refl _⟩, dQ⟩
 case round =>
  clear H'; obtain ⟨x0_1, x1_1, rfl, rfl, HA, HK1, ⟨m1, rfl⟩⟩ := hrel
  cases gk with
  | zero => exact absurd HA.out (by simp [spec_pgCommon.l0])
  | succ k1 =>
   have H := HA.out; clear HA
   simp only [spec_pgCommon.l0] at H
   by_cases c5 : x1_1 > 0
   ·rw [if_pos c5] at H; have c5b0 := dE c5; clear c5; replace H := iM H; obtain ⟨c6, H⟩ := H; have c6b0 : (x1_1 == 0) = false := beq_eq_false_iff_ne.mpr c6; have c6b1 : (x1_1 != 0) = true := bne_iff_ne.mpr c6; have H' := aM H; clear H; go_wp2
    repeat (go_quiet (fail); try go_wp2)
    go_roundg k1
    case measure => have := HK1.out; omega
    case rel => exact ⟨(x1_1), (Int.tmod x0_1 x1_1), eQ, eQ, H', ⟨by have := HK1.out; omega⟩, dQ⟩
   ·rw [if_neg c5] at H; have c5b0 := decide_eq_false c5; clear c5; obtain rfl := Option.some.inj H; go_wp2
    repeat (go_quiet (fail); try go_wp2)
    go_ret
    exact ⟨eQ, dQ⟩

def spec_pgStep.f (k : Nat) (a0_0 : Int) (a0_1 : Int) (a1_0 : Int) (a1_1 : Int) : Option (Int) := (spec_pgCommon.f k (wrap64 (a0_0 - a1_0)) (wrap64 (a0_1 - a1_1))).bind fun t143 => (some t143)
theorem spec_pgStep.mono : ∀ a0 a1 a2 a3 k, LeO (spec_pgStep.f k a0 a1 a2 a3) (spec_pgStep.f (k + 1) a0 a1 a2 a3) := by
 intro a0 a1 a2 a3 k
 unfold spec_pgStep.f
 repeat' first | (with_reducible exact spec_pgCommon.mono _ _ _) | (with_reducible exact LeO.refl _) | (with_reducible exact LeO.none _) | (with_reducible refine LeO.ite ?_ ?_) | (with_reducible refine LeO.bind ?_ (fun _ => ?_)) | exact spec_pgCommon.mono _ _ _ | exact LeO.none _ | refine LeO.ite ?_ ?_ | refine LeO.bind ?_ (fun _ => ?_)
set_option maxHeartbeats 8000000 in
set_option maxRecDepth 100000 in
theorem spec_pgStep.calls (k : Nat) (a0_0 : Int) (a0_1 : Int) (a1_0 : Int) (a1_1 : Int) (r : Int) (w : World) (h : spec_pgStep.f k a0_0 a0_1 a1_0 a1_1 = some r) :
  Calls Try.prog 113 #[.agg #[.int .i64 a0_0, .int .i64 a0_1], .agg #[.int .i64 a1_0, .int .i64 a1_1]] w fun e w' => e = .returned (.int .i64 r) ∧ Below w.heap.size w w' := by
 have hu41 := Try.underlying41; have HB := aM (Below.refl w.heap.size w)
 unfold spec_pgStep.f at h; have H := h; clear h
 replace H := bS H; obtain ⟨t143, A3, H⟩ := H; obtain rfl := Option.some.inj H
 go_enter Try.func113, Try.ntmps113
 go_wp2_with (first | ((with_reducible refine gate_dst (N := 2) rfl ?_); refine bV 2 (cs := #[.int .i64 a0_0, .int .i64 a0_1]) (t := 41) rfl rfl (by first | (go_simp; done) | (go_simp; rfl)) ?_; intro gb141 hg w4 hbox hb; have BK141 := hbox; have GW141 := gZ HB hg; have GE141 := gZ HB hg; replace HB := tB HB hb; clear hb hbox hg) | ((with_reducible refine gate_dst (N := 3) rfl ?_); refine bV 3 (cs := #[.int .i64 a1_0, .int .i64 a1_1]) (t := 41) rfl rfl (by first | (go_simp; done) | (go_simp; rfl)) ?_; intro gb142 hg w5 hbox hb; have BK142 := hbox; have GW142 := gZ HB hg; have GE142 := gZ HB hg; have NB141_142 := nG BK141 hg; have NB142_141 := nH BK141 hg; replace BK141 := bB BK141 hb; replace HB := tB HB hb; clear hb hbox hg; have hnb6 := NB141_142.out; have hnc6 := NB142_141.out; have hcz7_0 := vZ0 BK141; have hcz7_1 := vZ1 BK141; have hfz7_0 := kF BK141.out 0; have hfz7_1 := kF BK141.out 1; have hcz8_0 := vZ0 BK142; have hcz8_1 := vZ1 BK142; have hfz8_0 := kF BK142.out 0; have hfz8_1 := kF BK142.out 1) | ((with_reducible refine gC (f := 120) rfl ?_); refine goesL_ (some 15) rfl rfl Try.func120 kR rfl #[.int .i64 (wrap64 (a0_0 - a1_0)), .int .i64 (wrap64 (a0_1 - a1_1))] rfl sQ ?_; (with_reducible refine (spec_pgCommon.calls k (wrap64 (a0_0 - a1_0)) (wrap64 (a0_1 - a1_1)) t143 _ A3.out).mono ?_); rintro e w' ⟨rfl, ⟨nd, rfl⟩⟩; refine ⟨_, rfl, ?_⟩))
 go_ret
 exact ⟨wQ, bE⟩

def spec_pzValue.f (k : Nat) (a0 : Int) (a1_0 : Int) (a1_1 : Int) (a2_0 : Int) (a2_1 : Int) : Option (Int) := if a0 = 0 then (some a2_0) else (if a0 = 1 then (some a2_1) else (if a0 = 2 then (some (wrap64 (a2_0 + a2_1))) else (if a0 = 3 then ((spec_pgTurn.f 0 0 a1_0 a1_1 a2_0 a2_1).bind fun t146 => ((spec_l1Abs.f t146).bind fun t147 => (some t147))) else (if a0 = 4 then ((spec_bdFar.f a1_0 a1_1 a2_0 a2_1).bind fun t148 => (some t148)) else ((spec_pgStep.f k a1_0 a1_1 a2_0 a2_1).bind fun t149 => (if t149 < 2 then (some 1) else (some 0)))))))
theorem spec_pzValue.mono : ∀ a0 a1 a2 a3 a4 k, LeO (spec_pzValue.f k a0 a1 a2 a3 a4) (spec_pzValue.f (k + 1) a0 a1 a2 a3 a4) := by
 intro a0 a1 a2 a3 a4 k
 unfold spec_pzValue.f
 repeat' first | (with_reducible exact spec_pgStep.mono _ _ _ _ _) | (with_reducible exact LeO.refl _) | (with_reducible exact LeO.none _) | (with_reducible refine LeO.ite ?_ ?_) | (with_reducible refine LeO.bind ?_ (fun _ => ?_)) | exact spec_pgStep.mono _ _ _ _ _ | exact LeO.none _ | refine LeO.ite ?_ ?_ | refine LeO.bind ?_ (fun _ => ?_)
set_option maxHeartbeats 8000000 in
set_option maxRecDepth 100000 in
theorem spec_pzValue.calls (k : Nat) (a0 : Int) (a1_0 : Int) (a1_1 : Int) (a2_0 : Int) (a2_1 : Int) (r : Int) (w : World) (h : spec_pzValue.f k a0 a1_0 a1_1 a2_0 a2_1 = some r) :
  Calls Try.prog 94 #[.int .i64 a0, .agg #[.int .i64 a1_0, .int .i64 a1_1], .agg #[.int .i64 a2_0, .int .i64 a2_1]] w fun e w' => e = .returned (.int .i64 r) ∧ Below w.heap.size w w' := by
 have hu41 := Try.underlying41; have HB := aM (Below.refl w.heap.size w)
 unfold spec_pzValue.f at h; have H := h; clear h
 by_cases c4 : a0 = 0
 ·rw [if_pos c4] at H; have c4b0 : (a0 == 0) = true := beq_iff_eq.mpr c4; have c4b1 : (a0 != 0) = false := bne_eq_false_iff_eq.mpr c4; clear c4; obtain rfl := Option.some.inj H
  go_enter Try.func94, Try.ntmps94
  go_wp2_with (first | ((with_reducible refine gate_dst (N := 4) rfl ?_); refine bV 4 (cs := #[.int .i64 a1_0, .int .i64 a1_1]) (t := 41) rfl rfl (by first | (go_simp; done) | (go_simp; rfl)) ?_; intro gb144 hg w5 hbox hb; have BK144 := hbox; have GW144 := gZ HB hg; have GE144 := gZ HB hg; replace HB := tB HB hb; clear hb hbox hg) | ((with_reducible refine gate_dst (N := 5) rfl ?_); refine bV 5 (cs := #[.int .i64 a2_0, .int .i64 a2_1]) (t := 41) rfl rfl (by first | (go_simp; done) | (go_simp; rfl)) ?_; intro gb145 hg w6 hbox hb; have BK145 := hbox; have GW145 := gZ HB hg; have GE145 := gZ HB hg; have NB144_145 := nG BK144 hg; have NB145_144 := nH BK144 hg; replace BK144 := bB BK144 hb; replace HB := tB HB hb; clear hb hbox hg; have hnb7 := NB145_144.out; have hnc7 := NB144_145.out; have hcz8_0 := vZ0 BK145; have hcz8_1 := vZ1 BK145; have hfz8_0 := kF BK145.out 0; have hfz8_1 := kF BK145.out 1))
  go_ret
  exact ⟨wQ, bE⟩
 ·rw [if_neg c4] at H; have c4b0 : (a0 == 0) = false := beq_eq_false_iff_ne.mpr c4; have c4b1 : (a0 != 0) = true := bne_iff_ne.mpr c4
  by_cases c9 : a0 = 1
  ·rw [if_pos c9] at H; have c9b0 : (a0 == 1) = true := beq_iff_eq.mpr c9; have c9b1 : (a0 != 1) = false := bne_eq_false_iff_eq.mpr c9; clear c9; obtain rfl := Option.some.inj H
   go_enter Try.func94, Try.ntmps94
   go_wp2_with (first | ((with_reducible refine gate_dst (N := 4) rfl ?_); refine bV 4 (cs := #[.int .i64 a1_0, .int .i64 a1_1]) (t := 41) rfl rfl (by first | (go_simp; done) | (go_simp; rfl)) ?_; intro gb144 hg w10 hbox hb; have BK144 := hbox; have GW144 := gZ HB hg; have GE144 := gZ HB hg; replace HB := tB HB hb; clear hb hbox hg) | ((with_reducible refine gate_dst (N := 5) rfl ?_); refine bV 5 (cs := #[.int .i64 a2_0, .int .i64 a2_1]) (t := 41) rfl rfl (by first | (go_simp; done) | (go_simp; rfl)) ?_; intro gb145 hg w11 hbox hb; have BK145 := hbox; have GW145 := gZ HB hg; have GE145 := gZ HB hg; have NB144_145 := nG BK144 hg; have NB145_144 := nH BK144 hg; replace BK144 := bB BK144 hb; replace HB := tB HB hb; clear hb hbox hg; have hnb12 := NB145_144.out; have hnc12 := NB144_145.out; have hcz13_0 := vZ0 BK145; have hcz13_1 := vZ1 BK145; have hfz13_0 := kF BK145.out 0; have hfz13_1 := kF BK145.out 1))
   go_ret
   exact ⟨wQ, bE⟩
  ·rw [if_neg c9] at H; have c9b0 : (a0 == 1) = false := beq_eq_false_iff_ne.mpr c9; have c9b1 : (a0 != 1) = true := bne_iff_ne.mpr c9
   by_cases c14 : a0 = 2
   ·rw [if_pos c14] at H; have c14b0 : (a0 == 2) = true := beq_iff_eq.mpr c14; have c14b1 : (a0 != 2) = false := bne_eq_false_iff_eq.mpr c14; clear c14; obtain rfl := Option.some.inj H
    go_enter Try.func94, Try.ntmps94
    go_wp2_with (first | ((with_reducible refine gate_dst (N := 4) rfl ?_); refine bV 4 (cs := #[.int .i64 a1_0, .int .i64 a1_1]) (t := 41) rfl rfl (by first | (go_simp; done) | (go_simp; rfl)) ?_; intro gb144 hg w15 hbox hb; have BK144 := hbox; have GW144 := gZ HB hg; have GE144 := gZ HB hg; replace HB := tB HB hb; clear hb hbox hg) | ((with_reducible refine gate_dst (N := 5) rfl ?_); refine bV 5 (cs := #[.int .i64 a2_0, .int .i64 a2_1]) (t := 41) rfl rfl (by first | (go_simp; done) | (go_simp; rfl)) ?_; intro gb145 hg w16 hbox hb; have BK145 := hbox; have GW145 := gZ HB hg; have GE145 := gZ HB hg; have NB144_145 := nG BK144 hg; have NB145_144 := nH BK144 hg; replace BK144 := bB BK144 hb; replace HB := tB HB hb; clear hb hbox hg; have hnb17 := NB145_144.out; have hnc17 := NB144_145.out; have hcz18_0 := vZ0 BK145; have hcz18_1 := vZ1 BK145; have hfz18_0 := kF BK145.out 0; have hfz18_1 := kF BK145.out 1))
    go_ret
    exact ⟨wQ, bE⟩
   ·rw [if_neg c14] at H; have c14b0 : (a0 == 2) = false := beq_eq_false_iff_ne.mpr c14; have c14b1 : (a0 != 2) = true := bne_iff_ne.mpr c14
    by_cases c19 : a0 = 3
    ·rw [if_pos c19] at H; have c19b0 : (a0 == 3) = true := beq_iff_eq.mpr c19; have c19b1 : (a0 != 3) = false := bne_eq_false_iff_eq.mpr c19; clear c19; replace H := bS H; obtain ⟨t146, A20, H⟩ := H; replace H := bS H; obtain ⟨t147, A21, H⟩ := H; obtain rfl := Option.some.inj H
     go_enter Try.func94, Try.ntmps94
     go_wp2_with (first | ((with_reducible refine gate_dst (N := 4) rfl ?_); refine bV 4 (cs := #[.int .i64 a1_0, .int .i64 a1_1]) (t := 41) rfl rfl (by first | (go_simp; done) | (go_simp; rfl)) ?_; intro gb144 hg w22 hbox hb; have BK144 := hbox; have GW144 := gZ HB hg; have GE144 := gZ HB hg; replace HB := tB HB hb; clear hb hbox hg) | ((with_reducible refine gate_dst (N := 5) rfl ?_); refine bV 5 (cs := #[.int .i64 a2_0, .int .i64 a2_1]) (t := 41) rfl rfl (by first | (go_simp; done) | (go_simp; rfl)) ?_; intro gb145 hg w23 hbox hb; have BK145 := hbox; have GW145 := gZ HB hg; have GE145 := gZ HB hg; have NB144_145 := nG BK144 hg; have NB145_144 := nH BK144 hg; replace BK144 := bB BK144 hb; replace HB := tB HB hb; clear hb hbox hg; have hnb24 := NB144_145.out; have hnc24 := NB145_144.out; have hcz25_0 := vZ0 BK144; have hcz25_1 := vZ1 BK144; have hfz25_0 := kF BK144.out 0; have hfz25_1 := kF BK144.out 1; have hcz26_0 := vZ0 BK145; have hcz26_1 := vZ1 BK145; have hfz26_0 := kF BK145.out 0; have hfz26_1 := kF BK145.out 1) | ((with_reducible refine gC (f := 80) rfl ?_); refine goesL_ (some 28) rfl rfl Try.func80 kR rfl #[.agg #[.int .i64 0, .int .i64 0], .agg #[.int .i64 a1_0, .int .i64 a1_1], .agg #[.int .i64 a2_0, .int .i64 a2_1]] rfl sQ ?_; (with_reducible refine (spec_pgTurn.calls 0 0 a1_0 a1_1 a2_0 a2_1 t146 _ A20.out).mono ?_); rintro e w27 ⟨rfl, hb⟩; refine ⟨_, rfl, ?_⟩; replace BK144 := bB BK144 hb; replace BK145 := bB BK145 hb; replace HB := tB HB hb; (try clear hb); (try clear hb2); (try clear hk); (try clear hi)) | ((with_reducible refine gC (f := 111) rfl ?_); refine goesL_ (some 29) rfl rfl Try.func111 kR rfl #[.int .i64 t146] rfl sQ ?_; (with_reducible refine (spec_l1Abs.calls t146 t147 _ A21.out).mono ?_); rintro e w' ⟨rfl, ⟨nd, rfl⟩⟩; refine ⟨_, rfl, ?_⟩))
     go_ret
     exact ⟨wQ, bE⟩
    ·rw [if_neg c19] at H; have c19b0 : (a0 == 3) = false := beq_eq_false_iff_ne.mpr c19; have c19b1 : (a0 != 3) = true := bne_iff_ne.mpr c19
     by_cases c28 : a0 = 4
     ·rw [if_pos c28] at H; have c28b0 : (a0 == 4) = true := beq_iff_eq.mpr c28; have c28b1 : (a0 != 4) = false := bne_eq_false_iff_eq.mpr c28; clear c28; replace H := bS H; obtain ⟨t148, A29, H⟩ := H; obtain rfl := Option.some.inj H
      go_enter Try.func94, Try.ntmps94
      go_wp2_with (first | ((with_reducible refine gate_dst (N := 4) rfl ?_); refine bV 4 (cs := #[.int .i64 a1_0, .int .i64 a1_1]) (t := 41) rfl rfl (by first | (go_simp; done) | (go_simp; rfl)) ?_; intro gb144 hg w30 hbox hb; have BK144 := hbox; have GW144 := gZ HB hg; have GE144 := gZ HB hg; replace HB := tB HB hb; clear hb hbox hg) | ((with_reducible refine gate_dst (N := 5) rfl ?_); refine bV 5 (cs := #[.int .i64 a2_0, .int .i64 a2_1]) (t := 41) rfl rfl (by first | (go_simp; done) | (go_simp; rfl)) ?_; intro gb145 hg w31 hbox hb; have BK145 := hbox; have GW145 := gZ HB hg; have GE145 := gZ HB hg; have NB144_145 := nG BK144 hg; have NB145_144 := nH BK144 hg; replace BK144 := bB BK144 hb; replace HB := tB HB hb; clear hb hbox hg; have hnb32 := NB144_145.out; have hnc32 := NB145_144.out; have hcz33_0 := vZ0 BK144; have hcz33_1 := vZ1 BK144; have hfz33_0 := kF BK144.out 0; have hfz33_1 := kF BK144.out 1; have hcz34_0 := vZ0 BK145; have hcz34_1 := vZ1 BK145; have hfz34_0 := kF BK145.out 0; have hfz34_1 := kF BK145.out 1) | ((with_reducible refine gC (f := 112) rfl ?_); refine goesL_ (some 34) rfl rfl Try.func112 kR rfl #[.agg #[.int .i64 a1_0, .int .i64 a1_1], .agg #[.int .i64 a2_0, .int .i64 a2_1]] rfl sQ ?_; (with_reducible refine (spec_bdFar.calls a1_0 a1_1 a2_0 a2_1 t148 _ A29.out).mono ?_); rintro e w35 ⟨rfl, hb⟩; refine ⟨_, rfl, ?_⟩; replace BK144 := bB BK144 hb; replace BK145 := bB BK145 hb; replace HB := tB HB hb; (try clear hb); (try clear hb2); (try clear hk); (try clear hi)))
      go_ret
      exact ⟨wQ, bE⟩
     ·rw [if_neg c28] at H; have c28b0 : (a0 == 4) = false := beq_eq_false_iff_ne.mpr c28; have c28b1 : (a0 != 4) = true := bne_iff_ne.mpr c28; replace H := bS H; obtain ⟨t149, A36, H⟩ := H
      by_cases c37 : t149 < 2
      ·rw [if_pos c37] at H; have c37b0 := dE c37; clear c37; obtain rfl := Option.some.inj H
       go_enter Try.func94, Try.ntmps94
       go_wp2_with (first | ((with_reducible refine gate_dst (N := 4) rfl ?_); refine bV 4 (cs := #[.int .i64 a1_0, .int .i64 a1_1]) (t := 41) rfl rfl (by first | (go_simp; done) | (go_simp; rfl)) ?_; intro gb144 hg w38 hbox hb; have BK144 := hbox; have GW144 := gZ HB hg; have GE144 := gZ HB hg; replace HB := tB HB hb; clear hb hbox hg) | ((with_reducible refine gate_dst (N := 5) rfl ?_); refine bV 5 (cs := #[.int .i64 a2_0, .int .i64 a2_1]) (t := 41) rfl rfl (by first | (go_simp; done) | (go_simp; rfl)) ?_; intro gb145 hg w39 hbox hb; have BK145 := hbox; have GW145 := gZ HB hg; have GE145 := gZ HB hg; have NB144_145 := nG BK144 hg; have NB145_144 := nH BK144 hg; replace BK144 := bB BK144 hb; replace HB := tB HB hb; clear hb hbox hg; have hnb40 := NB144_145.out; have hnc40 := NB145_144.out; have hcz41_0 := vZ0 BK144; have hcz41_1 := vZ1 BK144; have hfz41_0 := kF BK144.out 0; have hfz41_1 := kF BK144.out 1; have hcz42_0 := vZ0 BK145; have hcz42_1 := vZ1 BK145; have hfz42_0 := kF BK145.out 0; have hfz42_1 := kF BK145.out 1) | ((with_reducible refine gC (f := 113) rfl ?_); refine goesL_ (some 37) rfl rfl Try.func113 kR rfl #[.agg #[.int .i64 a1_0, .int .i64 a1_1], .agg #[.int .i64 a2_0, .int .i64 a2_1]] rfl sQ ?_; (with_reducible refine (spec_pgStep.calls k a1_0 a1_1 a2_0 a2_1 t149 _ A36.out).mono ?_); rintro e w43 ⟨rfl, hb⟩; refine ⟨_, rfl, ?_⟩; replace BK144 := bB BK144 hb; replace BK145 := bB BK145 hb; replace HB := tB HB hb; (try clear hb); (try clear hb2); (try clear hk); (try clear hi)))
       go_ret
       exact ⟨wQ, bE⟩
      ·rw [if_neg c37] at H; have c37b0 := decide_eq_false c37; clear c37; obtain rfl := Option.some.inj H
       go_enter Try.func94, Try.ntmps94
       go_wp2_with (first | ((with_reducible refine gate_dst (N := 4) rfl ?_); refine bV 4 (cs := #[.int .i64 a1_0, .int .i64 a1_1]) (t := 41) rfl rfl (by first | (go_simp; done) | (go_simp; rfl)) ?_; intro gb144 hg w44 hbox hb; have BK144 := hbox; have GW144 := gZ HB hg; have GE144 := gZ HB hg; replace HB := tB HB hb; clear hb hbox hg) | ((with_reducible refine gate_dst (N := 5) rfl ?_); refine bV 5 (cs := #[.int .i64 a2_0, .int .i64 a2_1]) (t := 41) rfl rfl (by first | (go_simp; done) | (go_simp; rfl)) ?_; intro gb145 hg w45 hbox hb; have BK145 := hbox; have GW145 := gZ HB hg; have GE145 := gZ HB hg; have NB144_145 := nG BK144 hg; have NB145_144 := nH BK144 hg; replace BK144 := bB BK144 hb; replace HB := tB HB hb; clear hb hbox hg; have hnb46 := NB144_145.out; have hnc46 := NB145_144.out; have hcz47_0 := vZ0 BK144; have hcz47_1 := vZ1 BK144; have hfz47_0 := kF BK144.out 0; have hfz47_1 := kF BK144.out 1; have hcz48_0 := vZ0 BK145; have hcz48_1 := vZ1 BK145; have hfz48_0 := kF BK145.out 0; have hfz48_1 := kF BK145.out 1) | ((with_reducible refine gC (f := 113) rfl ?_); refine goesL_ (some 37) rfl rfl Try.func113 kR rfl #[.agg #[.int .i64 a1_0, .int .i64 a1_1], .agg #[.int .i64 a2_0, .int .i64 a2_1]] rfl sQ ?_; (with_reducible refine (spec_pgStep.calls k a1_0 a1_1 a2_0 a2_1 t149 _ A36.out).mono ?_); rintro e w49 ⟨rfl, hb⟩; refine ⟨_, rfl, ?_⟩; replace BK144 := bB BK144 hb; replace BK145 := bB BK145 hb; replace HB := tB HB hb; (try clear hb); (try clear hb2); (try clear hk); (try clear hi)))
       go_ret
       exact ⟨wQ, bE⟩

def spec_pzOf.f (k : Nat) (a0 : Int) (a1_0 : Int) (a1_1 : Int) (a2_0 : Int) (a2_1 : Int) : Option (Int × Int × Int × Int) := if a0 < 3 then ((spec_pzValue.f k a0 a1_0 a1_1 a2_0 a2_1).bind fun t153 => (some (a0, t153, 0, 0))) else ((spec_pzValue.f k a0 a1_0 a1_1 a2_0 a2_1).bind fun t154 => (some (a0, a1_0, a1_1, t154)))
theorem spec_pzOf.mono : ∀ a0 a1 a2 a3 a4 k, LeO (spec_pzOf.f k a0 a1 a2 a3 a4) (spec_pzOf.f (k + 1) a0 a1 a2 a3 a4) := by
 intro a0 a1 a2 a3 a4 k
 unfold spec_pzOf.f
 repeat' first | (with_reducible exact spec_pzValue.mono _ _ _ _ _ _) | (with_reducible exact LeO.refl _) | (with_reducible exact LeO.none _) | (with_reducible refine LeO.ite ?_ ?_) | (with_reducible refine LeO.bind ?_ (fun _ => ?_)) | exact spec_pzValue.mono _ _ _ _ _ _ | exact LeO.none _ | refine LeO.ite ?_ ?_ | refine LeO.bind ?_ (fun _ => ?_)
def spec_pzOf.T3 : Bool × List (List Nat × List Nat) := (true, [([], []), ([], []), ([1], [1]), ([], []), ([3], [3]), ([], []), ([], []), ([], []), ([5, 6, 7], [5, 6, 7]), ([0, 2, 4, 8], [0, 2, 4, 8]), ([9, 8, 0, 1, 2, 3, 4, 5, 6, 7, 8, 9], [9])])
def spec_pzOf.B3 : List Nat := [0, 0, 2, 0, 8, 0, 0, 0, 224, 511, 1023]
theorem spec_pzOf.tab3 : rtab .any (opsOf Try.f61 3) = spec_pzOf.T3 := by kernel_rfl
theorem spec_pzOf.bits3 : waitsOk spec_pzOf.T3.2 spec_pzOf.B3 = true := by kernel_rfl
set_option maxHeartbeats 8000000 in
set_option maxRecDepth 100000 in
theorem spec_pzOf.calls (k : Nat) (a0 : Int) (a1_0 : Int) (a1_1 : Int) (a2_0 : Int) (a2_1 : Int) (r1 : Int) (r2 : Int) (r3 : Int) (r4 : Int) (w : World) (h : spec_pzOf.f k a0 a1_0 a1_1 a2_0 a2_1 = some (r1, r2, r3, r4)) :
  Calls Try.prog 61 #[.int .i64 a0, .agg #[.int .i64 a1_0, .int .i64 a1_1], .agg #[.int .i64 a2_0, .int .i64 a2_1]] w fun e w' => e = .returned (.agg #[.int .i64 r1, .int .i64 r2, .int .i64 r3, .int .i64 r4]) ∧ Below w.heap.size w w' := by
 have hu41 := Try.underlying41; have hu48 := Try.underlying48; have HB := aM (Below.refl w.heap.size w)
 unfold spec_pzOf.f at h; have H := h; clear h
 by_cases c4 : a0 < 3
 ·rw [if_pos c4] at H; have c4b0 := dE c4; clear c4; replace H := bS H; obtain ⟨t153, A5, H⟩ := H
  simp only [Option.some.injEq, Prod.mk.injEq] at H
  obtain ⟨rfl, rfl, rfl, rfl⟩ := H
  go_enter Try.func61, Try.ntmps61
  go_wp2_with (first | ((with_reducible refine gate_dst (N := 4) rfl ?_); refine bV 4 (cs := #[.int .i64 a1_0, .int .i64 a1_1]) (t := 41) rfl rfl (by first | (go_simp; done) | (go_simp; rfl)) ?_; intro gb150 hg w6 hbox hb; have BK150 := hbox; have GW150 := gZ HB hg; have GE150 := gZ HB hg; replace HB := tB HB hb; clear hb hbox hg) | ((with_reducible refine gate_dst (N := 5) rfl ?_); refine bV 5 (cs := #[.int .i64 a2_0, .int .i64 a2_1]) (t := 41) rfl rfl (by first | (go_simp; done) | (go_simp; rfl)) ?_; intro gb151 hg w7 hbox hb; have BK151 := hbox; have GW151 := gZ HB hg; have GE151 := gZ HB hg; have NB150_151 := nG BK150 hg; have NB151_150 := nH BK150 hg; replace BK150 := bB BK150 hb; replace HB := tB HB hb; clear hb hbox hg) | ((with_reducible refine gate_dst (N := 6) rfl ?_); refine bV 6 (cs := #[.int .i64 0, .int .i64 0, .int .i64 0, .int .i64 0]) (t := 48) rfl rfl (by first | (go_simp; done) | (go_simp; rfl)) ?_; intro gb152 hg w8 hbox hb; have BK152 := hbox; have GW152 := gZ HB hg; have GE152 := gZ HB hg; have NB150_152 := nG BK150 hg; have NB152_150 := nH BK150 hg; have NB151_152 := nG BK151 hg; have NB152_151 := nH BK151 hg; replace BK150 := bB BK150 hb; replace BK151 := bB BK151 hb; replace HB := tB HB hb; clear hb hbox hg; have hnb9 := NB150_151.out; have hnc9 := NB151_150.out; have hnb10 := NB150_152.out; have hnc10 := NB152_150.out; have hcz11_0 := vZ0 BK150; have hcz11_1 := vZ1 BK150; have hfz11_0 := kF BK150.out 0; have hfz11_1 := kF BK150.out 1; have hnb12 := NB151_152.out; have hnc12 := NB152_151.out; have hcz13_0 := vZ0 BK151; have hcz13_1 := vZ1 BK151; have hfz13_0 := kF BK151.out 0; have hfz13_1 := kF BK151.out 1) | ((with_reducible refine gC (f := 94) rfl ?_); refine goesL_ (some 13) rfl rfl Try.func94 kR rfl #[.int .i64 a0, .agg #[.int .i64 a1_0, .int .i64 a1_1], .agg #[.int .i64 a2_0, .int .i64 a2_1]] rfl sQ ?_; (with_reducible refine (spec_pzValue.calls k a0 a1_0 a1_1 a2_0 a2_1 t153 _ A5.out).mono ?_); rintro e w14 ⟨rfl, hb⟩; refine ⟨_, rfl, ?_⟩; replace BK150 := bB BK150 hb; replace BK151 := bB BK151 hb; replace BK152 := bB BK152 hb; replace HB := tB HB hb; (try clear hb); (try clear hb2); (try clear hk); (try clear hi); have hcz15_0 := vZ0 BK152; have hcz15_1 := vZ1 BK152; have hcz15_2 := vZ2 BK152; have hcz15_3 := vZ3 BK152; have hfz15_0 := kF BK152.out 0; have hfz15_1 := kF BK152.out 1; have hfz15_2 := kF BK152.out 2; have hfz15_3 := kF BK152.out 3))
  refine bodyPost_ret (results_cell_row rfl _ _ gb152 48 #[.int .i64 a0, .int .i64 t153, .int .i64 0, .int .i64 0] (0, 0) _ rfl (fQ BK152) Try.underlying48 rfl kR) rfl ?_
  exact ⟨wQ, bE⟩
 ·rw [if_neg c4] at H; have c4b0 := decide_eq_false c4; clear c4; replace H := bS H; obtain ⟨t154, A16, H⟩ := H
  simp only [Option.some.injEq, Prod.mk.injEq] at H
  obtain ⟨rfl, rfl, rfl, rfl⟩ := H
  go_enter Try.func61, Try.ntmps61
  try go_wp2_with (first | ((with_reducible refine gate_dst (N := 4) rfl ?_); refine bV 4 (cs := #[.int .i64 a1_0, .int .i64 a1_1]) (t := 41) rfl rfl (by first | (go_simp; done) | (go_simp; rfl)) ?_; intro gb150 hg w17 hbox hb; have BK150 := hbox; have GW150 := gZ HB hg; have GE150 := gZ HB hg; replace HB := tB HB hb; clear hb hbox hg) | ((with_reducible refine gate_dst (N := 5) rfl ?_); refine bV 5 (cs := #[.int .i64 a2_0, .int .i64 a2_1]) (t := 41) rfl rfl (by first | (go_simp; done) | (go_simp; rfl)) ?_; intro gb151 hg w18 hbox hb; have BK151 := hbox; have GW151 := gZ HB hg; have GE151 := gZ HB hg; have NB150_151 := nG BK150 hg; have NB151_150 := nH BK150 hg; replace BK150 := bB BK150 hb; replace HB := tB HB hb; clear hb hbox hg) | ((with_reducible refine gate_dst (N := 6) rfl ?_); refine bV 6 (cs := #[.int .i64 0, .int .i64 0, .int .i64 0, .int .i64 0]) (t := 48) rfl rfl (by first | (go_simp; done) | (go_simp; rfl)) ?_; intro gb152 hg w19 hbox hb; have BK152 := hbox; have GW152 := gZ HB hg; have GE152 := gZ HB hg; have NB150_152 := nG BK150 hg; have NB152_150 := nH BK150 hg; have NB151_152 := nG BK151 hg; have NB152_151 := nH BK151 hg; replace BK150 := bB BK150 hb; replace BK151 := bB BK151 hb; replace HB := tB HB hb; clear hb hbox hg))
  replace BK150 := aM (kD BK150.out); replace BK151 := aM (kD BK151.out); replace BK152 := aM (kD BK152.out); replace HB := aM (pD HB.out)
  refine start_ (n := 11) (S := fun w' => w'.cell? ⟨gb150, 0, none⟩ = some (.int .i64 a1_0) ∧ w'.cell? ⟨gb150, 1, none⟩ = some (.int .i64 a1_1) ∧ w'.cell? ⟨gb151, 0, none⟩ = some (.int .i64 a2_0) ∧ w'.cell? ⟨gb151, 1, none⟩ = some (.int .i64 a2_1)) (ds := []) (bA 11 0) kR rfl kR ⟨vZ0 BK150, vZ1 BK150, vZ0 BK151, vZ1 BK151⟩ (fun hHeld => ?_); refine with_tabW spec_pzOf.tab3 spec_pzOf.bits3 (fun HT_ HW_ => ?_)
  generalize w19.drew = w20 at BK150 BK151 BK152 HB hHeld ⊢
  refine pU 0 15 (bA 11 1) HT_ ?_; refine pU 1 16 (bA 11 3) HT_ ?_; refine pU 3 18 (bA 11 11) HT_ ?_; refine pU 5 20 (bA 11 43) HT_ ?_
  refine tU 2 17 (bA 11 47) HT_ HW_ hHeld ?_ (hy := Or.inl ⟨by rfl, by rintro w' ⟨s0, s1, s2, s3⟩; go_simp; with_reducible rfl⟩)
  refine tU 4 19 (bA 11 63) HT_ HW_ hHeld ?_ (hy := Or.inl ⟨by rfl, by rintro w' ⟨s0, s1, s2, s3⟩; go_simp; with_reducible rfl⟩)
  refine tU 6 21 (bA 11 127) HT_ HW_ hHeld ?_ (hy := Or.inl ⟨by rfl, by rintro w' ⟨s0, s1, s2, s3⟩; go_simp; with_reducible rfl⟩)
  refine tU 7 22 (bA 11 255) HT_ HW_ hHeld ?_ (hy := Or.inl ⟨by rfl, by rintro w' ⟨s0, s1, s2, s3⟩; go_simp; with_reducible rfl⟩)
  refine oU 8 23 (bA 11 511) HT_ (fun K hK => ?_)
  refine goes_ Try.func94 kR rfl #[.int .i64 a0, .agg #[.int .i64 a1_0, .int .i64 a1_1], .agg #[.int .i64 a2_0, .int .i64 a2_1]] (by rfl) rfl rfl sQ ?_
  with_reducible refine (spec_pzValue.calls k a0 a1_0 a1_1 a2_0 a2_1 t154 _ A16.out).mono ?_
  rintro e w21 ⟨rfl, hb⟩; refine ⟨_, rfl, ?_⟩; replace BK150 := bB BK150 hb; replace BK151 := bB BK151 hb; replace BK152 := bB BK152 hb; replace HB := tB HB hb; (try clear hb); (try clear hb2); (try clear hk); (try clear hi)
  refine hK.out _ _ ⟨vZ0 BK150, vZ1 BK150, vZ0 BK151, vZ1 BK151⟩ (fun hHeld => ?_)
  clear hK K
  refine nU ?_
  refine pU 9 24 (bA 11 1023) HT_ ?_
  refine one_ (i := 10) (N := none) (bA 11 2047) rfl rfl (one_of HT_.out kR) (by decide) (fun K hK => ?_)
  have hs22 : w21.cell? ⟨gb152, 0, none⟩ = some (.int .i64 0) := vZ0 BK152; have hfs22 := kF BK152.out 0; have hns22_0 := NB150_152.out; have hns22_1 := NB151_152.out; have hms22_0 := NB152_150.out; have hms22_1 := NB152_151.out; have hs23 : w21.cell? ⟨gb152, 1, none⟩ = some (.int .i64 0) := vZ1 BK152; have hfs23 := kF BK152.out 1; have hns23_0 := NB150_152.out; have hns23_1 := NB151_152.out; have hms23_0 := NB152_150.out; have hms23_1 := NB152_151.out; have hs24 : w21.cell? ⟨gb152, 2, none⟩ = some (.int .i64 0) := vZ2 BK152; have hfs24 := kF BK152.out 2; have hns24_0 := NB150_152.out; have hns24_1 := NB151_152.out; have hms24_0 := NB152_150.out; have hms24_1 := NB152_151.out; have hs25 : w21.cell? ⟨gb152, 3, none⟩ = some (.int .i64 0) := vZ3 BK152; have hfs25 := kF BK152.out 3; have hns25_0 := NB150_152.out; have hns25_1 := NB151_152.out; have hms25_0 := NB152_150.out; have hms25_1 := NB152_151.out
  refine skip_ (w1 := ?_) (by rfl) rfl ?_ ?_
  rotate_left
  ·go_simp
   rfl
  refine hK.out _ _ ⟨((cell_far (p := ⟨gb152, _, none⟩) NB150_152.out _).trans (((cell_far (p := ⟨gb152, _, none⟩) NB150_152.out _).trans (((cell_far (p := ⟨gb152, _, none⟩) NB150_152.out _).trans (((cell_far (p := ⟨gb152, _, none⟩) NB150_152.out _).trans (hHeld.1)))))))), ((cell_far (p := ⟨gb152, _, none⟩) NB150_152.out _).trans (((cell_far (p := ⟨gb152, _, none⟩) NB150_152.out _).trans (((cell_far (p := ⟨gb152, _, none⟩) NB150_152.out _).trans (((cell_far (p := ⟨gb152, _, none⟩) NB150_152.out _).trans (hHeld.2.1)))))))), ((cell_far (p := ⟨gb152, _, none⟩) NB151_152.out _).trans (((cell_far (p := ⟨gb152, _, none⟩) NB151_152.out _).trans (((cell_far (p := ⟨gb152, _, none⟩) NB151_152.out _).trans (((cell_far (p := ⟨gb152, _, none⟩) NB151_152.out _).trans (hHeld.2.2.1)))))))), ((cell_far (p := ⟨gb152, _, none⟩) NB151_152.out _).trans (((cell_far (p := ⟨gb152, _, none⟩) NB151_152.out _).trans (((cell_far (p := ⟨gb152, _, none⟩) NB151_152.out _).trans (((cell_far (p := ⟨gb152, _, none⟩) NB151_152.out _).trans (hHeld.2.2.2))))))))⟩ (fun hHeld => ?_)
  clear hK K
  refine done_ (done_of HT_.out kR) ?_
  try go_wp2
  refine bodyPost_ret (results_cell_row rfl _ _ gb152 48 #[.int .i64 a0, .int .i64 a1_0, .int .i64 a1_1, .int .i64 t154] (0, 0) _ rfl (fQ BK152) Try.underlying48 rfl kR) rfl ?_
  exact ⟨wQ, bE⟩

end Go.Proofs.Ytoeclfihlhmnpaa.X
