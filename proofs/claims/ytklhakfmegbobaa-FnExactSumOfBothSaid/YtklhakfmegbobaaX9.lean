-- thin
-- short
-- compact
import Derived.Test.YtklhakfmegbobaaXA
import Derived.Test.YtklhakfmegbobaaX0
import Derived.Test.YtklhakfmegbobaaX5
import Derived.Test.YtklhakfmegbobaaX6
import Derived.Test.YtklhakfmegbobaaX7
import Derived.Test.YtklhakfmegbobaaX8
namespace Go.Proofs.Ytklhakfmegbobaa.X
open Go.RowKit Go.Proofs.Ytklhakfmegbobaa.XW Go.Proofs.YtklhakfmegbobaaW.PrintWords Go.Proofs.YtklhakfmegbobaaW.PrintLast Go.Proofs.YtklhakfmegbobaaW.PrintMore
attribute [local go_sem] max2_int min2_int max_two min_two max_three min_three max_four min_four   -- for this text's walks alone
set_option linter.unusedVariables false
set_option linter.unusedSimpArgs false

def spec_pgCommon.l0 : Nat → Int → Int → Option (Int)
 | 0, _, _ => none
 | k + 1, x0, x1 => if x1 > 0 then (if x1 = 0 then (none) else (spec_pgCommon.l0 k x1 (Int.tmod x0 x1))) else (some x0)
def spec_pgCommon.f (k : Nat) (a0 : Int) (a1 : Int) : Option (Int) := (spec_l1Abs.f a0).bind fun t183 => ((spec_l1Abs.f a1).bind fun t184 => (spec_pgCommon.l0 k t183 t184))
theorem spec_pgCommon.mono_l : ∀ k, (∀ y0 y1, LeO (spec_pgCommon.l0 k y0 y1) (spec_pgCommon.l0 (k + 1) y0 y1))
 | 0 => fun _ _ r h => by simp [spec_pgCommon.l0] at h
 | k + 1 => by
  have ih0 := spec_pgCommon.mono_l k
  ·intro y0 y1
   unfold spec_pgCommon.l0
   repeat' first
   | (with_reducible exact ih0 _ _)
   | (with_reducible exact LeO.refl _)
   | (with_reducible exact LeO.none _)
   | (with_reducible refine LeO.ite ?_ ?_)
   | (with_reducible refine LeO.bind ?_ (fun _ => ?_))
   | exact ih0 _ _
   | exact LeO.none _
   | refine LeO.ite ?_ ?_
   | refine LeO.bind ?_ (fun _ => ?_)
theorem spec_pgCommon.mono : ∀ a0 a1 k, LeO (spec_pgCommon.f k a0 a1) (spec_pgCommon.f (k + 1) a0 a1) := by
 intro a0 a1 k
 have ih0 := spec_pgCommon.mono_l k
 unfold spec_pgCommon.f
 repeat' first | (with_reducible exact ih0 _ _) | (with_reducible exact LeO.refl _) | (with_reducible exact LeO.none _) | (with_reducible refine LeO.ite ?_ ?_) | (with_reducible refine LeO.bind ?_ (fun _ => ?_)) | exact ih0 _ _ | exact LeO.none _ | refine LeO.ite ?_ ?_ | refine LeO.bind ?_ (fun _ => ?_)
set_option maxHeartbeats 8000000 in
set_option maxRecDepth 100000 in
theorem spec_pgCommon.calls (k : Nat) (a0 : Int) (a1 : Int) (r : Int) (w : World) (h : spec_pgCommon.f k a0 a1 = some r) :
  Calls Try.prog 142 #[.int .i64 a0, .int .i64 a1] w fun e w' => e = .returned (.int .i64 r) ∧ Drawn0 w w' := by
 unfold spec_pgCommon.f at h; have H := h; clear h
 replace H := bS H; obtain ⟨t183, A3, H⟩ := H; replace H := bS H; obtain ⟨t184, A4, H⟩ := H; have H' := aM H; clear H
 go_enter Try.func142, Try.ntmps142
 go_wp2_with (first | (go_at_call 127; (with_reducible refine (spec_l1Abs.calls a0 t183 _ A3.out).mono ?_); rintro e w' ⟨rfl, ⟨nd, rfl⟩⟩; (try first | exact ⟨rfl, _, World.drewN_drewN _ _ _⟩ | exact ⟨rfl, _, Eq.trans (World.drewN_drewN _ _ _) (congrArg (World.drewN _) (Nat.add_assoc _ _ _))⟩)) | (go_at_call 127; (with_reducible refine (spec_l1Abs.calls a1 t184 _ A4.out).mono ?_); rintro e w' ⟨rfl, ⟨nd, rfl⟩⟩; (try first | exact ⟨rfl, _, World.drewN_drewN _ _ _⟩ | exact ⟨rfl, _, Eq.trans (World.drewN_drewN _ _ _) (congrArg (World.drewN _) (Nat.add_assoc _ _ _))⟩)))
 repeat (go_quiet (first | (go_at_call 127; (with_reducible refine (spec_l1Abs.calls a0 t183 _ A3.out).mono ?_); rintro e w' ⟨rfl, ⟨nd, rfl⟩⟩; (try first | exact ⟨rfl, _, World.drewN_drewN _ _ _⟩ | exact ⟨rfl, _, Eq.trans (World.drewN_drewN _ _ _) (congrArg (World.drewN _) (Nat.add_assoc _ _ _))⟩)) | (go_at_call 127; (with_reducible refine (spec_l1Abs.calls a1 t184 _ A4.out).mono ?_); rintro e w' ⟨rfl, ⟨nd, rfl⟩⟩; (try first | exact ⟨rfl, _, World.drewN_drewN _ _ _⟩ | exact ⟨rfl, _, Eq.trans (World.drewN_drewN _ _ _) (congrArg (World.drewN _) (Nat.add_assoc _ _ _))⟩))); try go_wp2_with (first | (go_at_call 127; (with_reducible refine (spec_l1Abs.calls a0 t183 _ A3.out).mono ?_); rintro e w' ⟨rfl, ⟨nd, rfl⟩⟩; (try first | exact ⟨rfl, _, World.drewN_drewN _ _ _⟩ | exact ⟨rfl, _, Eq.trans (World.drewN_drewN _ _ _) (congrArg (World.drewN _) (Nat.add_assoc _ _ _))⟩)) | (go_at_call 127; (with_reducible refine (spec_l1Abs.calls a1 t184 _ A4.out).mono ?_); rintro e w' ⟨rfl, ⟨nd, rfl⟩⟩; (try first | exact ⟨rfl, _, World.drewN_drewN _ _ _⟩ | exact ⟨rfl, _, Eq.trans (World.drewN_drewN _ _ _) (congrArg (World.drewN _) (Nat.add_assoc _ _ _))⟩))))
 go_loopg [0, 1] k (fun kq v0 v1 w' => ∃ (x0_1 : Int) (x1_1 : Int), v0 = .int .i64 x0_1 ∧ v1 = .int .i64 x1_1 ∧ Aside0 (spec_pgCommon.l0 kq x0_1 x1_1 = some r) ∧ Aside0 (kq ≤ k) ∧ Drawn0 w w')
 case atStart => exact ⟨(t183), (t184), eQ, eQ, H', ⟨Nat.le_refl _⟩, dQ⟩
 case round =>
  clear H'; obtain ⟨x0_1, x1_1, rfl, rfl, HA, HK1, ⟨m1, rfl⟩⟩ := hrel
  cases gk with
  | zero => exact absurd HA.out (by simp [spec_pgCommon.l0])
  | succ k1 =>
   have H := HA.out; clear HA
   simp only [spec_pgCommon.l0] at H
   by_cases c5 : x1_1 > 0
   ·rw [if_pos c5] at H; have c5b0 := dE c5; clear c5; replace H := iM H; obtain ⟨c6, H⟩ := H; have c6b0 : (x1_1 == 0) = false := beq_eq_false_iff_ne.mpr c6; have c6b1 : (x1_1 != 0) = true := bne_iff_ne.mpr c6; have H' := aM H; clear H; go_wp2
    repeat (go_quiet (fail); try go_wp2)
    go_roundg k1
    case measure => have := HK1.out; omega
    case rel => exact ⟨(x1_1), (Int.tmod x0_1 x1_1), eQ, eQ, H', ⟨by have := HK1.out; omega⟩, dQ⟩
   ·rw [if_neg c5] at H; have c5b0 := decide_eq_false c5; clear c5; obtain rfl := Option.some.inj H; go_wp2
    repeat (go_quiet (fail); try go_wp2)
    go_ret
    exact ⟨eQ, dQ⟩

def spec_pgStep.f (k : Nat) (a0_0 : Int) (a0_1 : Int) (a1_0 : Int) (a1_1 : Int) : Option (Int) := (spec_pgCommon.f k (wrap64 (a0_0 - a1_0)) (wrap64 (a0_1 - a1_1))).bind fun t187 => (some t187)
theorem spec_pgStep.mono : ∀ a0 a1 a2 a3 k, LeO (spec_pgStep.f k a0 a1 a2 a3) (spec_pgStep.f (k + 1) a0 a1 a2 a3) := by
 intro a0 a1 a2 a3 k
 unfold spec_pgStep.f
 repeat' first | (with_reducible exact spec_pgCommon.mono _ _ _) | (with_reducible exact LeO.refl _) | (with_reducible exact LeO.none _) | (with_reducible refine LeO.ite ?_ ?_) | (with_reducible refine LeO.bind ?_ (fun _ => ?_)) | exact spec_pgCommon.mono _ _ _ | exact LeO.none _ | refine LeO.ite ?_ ?_ | refine LeO.bind ?_ (fun _ => ?_)
set_option maxHeartbeats 8000000 in
set_option maxRecDepth 100000 in
theorem spec_pgStep.calls (k : Nat) (a0_0 : Int) (a0_1 : Int) (a1_0 : Int) (a1_1 : Int) (r : Int) (w : World) (h : spec_pgStep.f k a0_0 a0_1 a1_0 a1_1 = some r) :
  Calls Try.prog 134 #[.agg #[.int .i64 a0_0, .int .i64 a0_1], .agg #[.int .i64 a1_0, .int .i64 a1_1]] w fun e w' => e = .returned (.int .i64 r) ∧ Below w.heap.size w w' := by
 have hu26 := Try.underlying26; have HB := aM (Below.refl w.heap.size w)
 unfold spec_pgStep.f at h; have H := h; clear h
 replace H := bS H; obtain ⟨t187, A3, H⟩ := H; obtain rfl := Option.some.inj H
 go_enter Try.func134, Try.ntmps134
 go_wp2_with (first | ((with_reducible refine gate_dst (N := 2) rfl ?_); refine bV 2 (cs := #[.int .i64 a0_0, .int .i64 a0_1]) (t := 26) rfl rfl (by first | (go_simp; done) | (go_simp; rfl)) ?_; intro gb185 hg w4 hbox hb; have BK185 := hbox; have GW185 := gZ HB hg; have GE185 := gZ HB hg; replace HB := tB HB hb; clear hb hbox hg) | ((with_reducible refine gate_dst (N := 3) rfl ?_); refine bV 3 (cs := #[.int .i64 a1_0, .int .i64 a1_1]) (t := 26) rfl rfl (by first | (go_simp; done) | (go_simp; rfl)) ?_; intro gb186 hg w5 hbox hb; have BK186 := hbox; have GW186 := gZ HB hg; have GE186 := gZ HB hg; have NB185_186 := nG BK185 hg; have NB186_185 := nH BK185 hg; replace BK185 := bB BK185 hb; replace HB := tB HB hb; clear hb hbox hg; have hnb6 := NB185_186.out; have hnc6 := NB186_185.out; have hcz7_0 := vZ0 BK185; have hcz7_1 := vZ1 BK185; have hfz7_0 := kF BK185.out 0; have hfz7_1 := kF BK185.out 1; have hcz8_0 := vZ0 BK186; have hcz8_1 := vZ1 BK186; have hfz8_0 := kF BK186.out 0; have hfz8_1 := kF BK186.out 1) | ((with_reducible refine gC (f := 142) rfl ?_); refine goesL_ (some 15) rfl rfl Try.func142 kR rfl #[.int .i64 (wrap64 (a0_0 - a1_0)), .int .i64 (wrap64 (a0_1 - a1_1))] rfl sQ ?_; (with_reducible refine (spec_pgCommon.calls k (wrap64 (a0_0 - a1_0)) (wrap64 (a0_1 - a1_1)) t187 _ A3.out).mono ?_); rintro e w' ⟨rfl, ⟨nd, rfl⟩⟩; refine ⟨_, rfl, ?_⟩))
 go_ret
 exact ⟨wQ, bE⟩

def spec_pgRound.l0 : Nat → List (S_impl_Peg) → Int → List (S_impl_Peg) → Int → Int → Option (Int)
 | 0, _, _, _, _, _ => none
 | k + 1, x0, x3, x6, x7, x8 => if x8 < x7 then (if 0 ≤ x8 then (if x8 < (x6.length : Int) then (if (x0.length : Int) = 0 then (none) else (if 0 ≤ (Int.tmod (wrap64 (x8 + 1)) (x0.length : Int)) then (if (Int.tmod (wrap64 (x8 + 1)) (x0.length : Int)) < (x0.length : Int) then ((spec_pgStep.f k ((rd_impl_Peg x6 x8).f0) ((rd_impl_Peg x6 x8).f1) ((rd_impl_Peg x0 (Int.tmod (wrap64 (x8 + 1)) (x0.length : Int))).f0) ((rd_impl_Peg x0 (Int.tmod (wrap64 (x8 + 1)) (x0.length : Int))).f1)).bind fun t191 => (spec_pgRound.l0 k x0 (wrap64 (x3 + t191)) x6 x7 (wrap64 (x8 + 1)))) else (none)) else (none))) else (none)) else (none)) else (some x3)
def spec_pgRound.f (k : Nat) (l0 : List (S_impl_Peg)) : Option (Int) := spec_pgRound.l0 k l0 0 l0 (l0.length : Int) 0
theorem spec_pgRound.mono_l : ∀ k, (∀ y0 y1 y2 y3 y4, LeO (spec_pgRound.l0 k y0 y1 y2 y3 y4) (spec_pgRound.l0 (k + 1) y0 y1 y2 y3 y4))
 | 0 => fun _ _ _ _ _ r h => by simp [spec_pgRound.l0] at h
 | k + 1 => by
  have ih0 := spec_pgRound.mono_l k
  ·intro y0 y1 y2 y3 y4
   unfold spec_pgRound.l0
   repeat' first
   | (with_reducible exact ih0 _ _ _ _ _)
   | (with_reducible exact spec_pgStep.mono _ _ _ _ _)
   | (with_reducible exact LeO.refl _)
   | (with_reducible exact LeO.none _)
   | (with_reducible refine LeO.ite ?_ ?_)
   | (with_reducible refine LeO.bind ?_ (fun _ => ?_))
   | exact ih0 _ _ _ _ _
   | exact spec_pgStep.mono _ _ _ _ _
   | exact LeO.none _
   | refine LeO.ite ?_ ?_
   | refine LeO.bind ?_ (fun _ => ?_)
theorem spec_pgRound.mono : ∀ a0 k, LeO (spec_pgRound.f k a0) (spec_pgRound.f (k + 1) a0) := by
 intro a0 k
 have ih0 := spec_pgRound.mono_l k
 unfold spec_pgRound.f
 repeat' first | (with_reducible exact ih0 _ _ _ _ _) | (with_reducible exact spec_pgStep.mono _ _ _ _ _) | (with_reducible exact LeO.refl _) | (with_reducible exact LeO.none _) | (with_reducible refine LeO.ite ?_ ?_) | (with_reducible refine LeO.bind ?_ (fun _ => ?_)) | exact ih0 _ _ _ _ _ | exact spec_pgStep.mono _ _ _ _ _ | exact LeO.none _ | refine LeO.ite ?_ ?_ | refine LeO.bind ?_ (fun _ => ?_)
def spec_pgRound.T5 : Bool × List (List Nat × List Nat) := (true, [([], []), ([], []), ([], []), ([], []), ([3], [3]), ([], []), ([5], [5]), ([4, 6], [4, 6]), ([2, 7], [2, 7]), ([8], [8]), ([1, 9], [1, 9]), ([0, 10], [0, 10]), ([11, 10, 0, 1, 2, 3, 4, 5, 6, 7, 8, 9, 10, 11], [0, 11])])
def spec_pgRound.B5 : List Nat := [0, 0, 0, 0, 8, 0, 32, 120, 252, 508, 1022, 2047, 4095]
theorem spec_pgRound.tab5 : rtab .any (opsOf Try.f103 5) = spec_pgRound.T5 := by kernel_rfl
theorem spec_pgRound.bits5 : waitsOk spec_pgRound.T5.2 spec_pgRound.B5 = true := by kernel_rfl
set_option maxHeartbeats 8000000 in
set_option maxRecDepth 100000 in
theorem spec_pgRound.calls (k : Nat) (A0 : Option Addr) (c0 : Nat) (l0 : List (S_impl_Peg)) (r : Int) (w : World) (hr0 : Kd.C kd_impl_Peg w A0 l0.length l0) (hc0 : l0.length ≤ c0) (h : spec_pgRound.f k l0 = some r) :
  Calls Try.prog 103 #[.slice A0 l0.length c0] w fun e w' => e = .returned (.int .i64 r) ∧ Below w.heap.size w w' := by
 have hu26 := Try.underlying26; have HR0 := aM hr0; have HC0 := aM hc0; clear hr0 hc0; have HB := aM (Below.refl w.heap.size w)
 unfold spec_pgRound.f at h; have H := h; clear h
 have H' := aM H; clear H
 go_enter Try.func103, Try.ntmps103
 go_wp2
 go_loopg [3, 8] k (fun kq v3 v8 w' => ∃ (x3_1 : Int) (x8_1 : Int), v3 = .int .i64 x3_1 ∧ v8 = .int .i64 x8_1 ∧ Aside0 (spec_pgRound.l0 kq l0 x3_1 l0 (l0.length : Int) x8_1 = some r) ∧ Aside0 (kq ≤ k) ∧ Aside0 (Below w.heap.size w w'))
 case atStart => exact ⟨(0), (0), eQ, eQ, H', ⟨Nat.le_refl _⟩, ⟨bQ⟩⟩
 case round =>
  clear H'; obtain ⟨x3_1, x8_1, rfl, rfl, HA, HK1, HB⟩ := hrel
  cases gk with
  | zero => exact absurd HA.out (by simp [spec_pgRound.l0])
  | succ k1 =>
   have H := HA.out; clear HA
   simp only [spec_pgRound.l0] at H
   by_cases c2 : x8_1 < (l0.length : Int)
   ·rw [if_pos c2] at H; have c2b0 := dE c2; clear c2; replace H := iD H; obtain ⟨c3b0, H⟩ := H; replace H := iD H; obtain ⟨c4b0, H⟩ := H; replace H := iM H; obtain ⟨c5, H⟩ := H; have c5b0 : ((l0.length : Int) == 0) = false := beq_eq_false_iff_ne.mpr c5; have c5b1 : ((l0.length : Int) != 0) = true := bne_iff_ne.mpr c5; have c5b2 : ¬ (l0 = []) := fun h_ => c5 (by rw [h_]; rfl)
    obtain ⟨ji6, hji6⟩ : ∃ j_ : Int, (Int.tmod (wrap64 (x8_1 + 1)) (l0.length : Int)) = j_ := ⟨_, rfl⟩
    (first | rw [hji6] at H | simp only [hji6] at H)
    replace H := iD H; obtain ⟨c7b0, H⟩ := H; replace H := iD H; obtain ⟨c8b0, H⟩ := H; replace H := bS H; obtain ⟨t191, A9, H⟩ := H; have H' := aM H; clear H; have p188 : 0 ≤ (x8_1 : Int) := dT aQ; have q188 : x8_1 < (l0.length : Int) := dT aQ; obtain ⟨ad188, e188, hx188_0, hx188_1⟩ := at_impl_Peg HR0.out x8_1 p188 q188
    cases e188
    replace hx188_0 := hC HB hx188_0; replace hx188_1 := hC HB hx188_1; replace p188 := eq_true p188; replace q188 := eq_true q188
    try go_wp2_with (first | ((with_reducible refine gate_dst (N := 5) rfl ?_); refine bV 5 (cs := #[.int .i64 0, .int .i64 0]) (t := 26) rfl rfl (by first | (go_simp; done) | (go_simp; rfl)) ?_; intro gb189 hg w10 hbox hb; have BK189 := hbox; have GW189 := gZ HB hg; have GE189 := gZ HB hg; replace HB := tB HB hb; clear hb hbox hg; have hcz11_0 := vZ0 BK189; have hcz11_1 := vZ1 BK189; have hfz11_0 := kF BK189.out 0; have hfz11_1 := kF BK189.out 1))
    have n0_ : Aside0 (((w10.setCell ⟨gb189, 0, none⟩ (.int .i64 ((rd_impl_Peg l0 x8_1).f0))).setCell ⟨gb189, 1, none⟩ (.int .i64 ((rd_impl_Peg l0 x8_1).f1))).heap[gb189]? = some (.cells #[.int .i64 ((rd_impl_Peg l0 x8_1).f0), .int .i64 ((rd_impl_Peg l0 x8_1).f1)] 26 (0, 0))) := ⟨fQ BK189⟩; have n1_ : Aside0 (Below w.heap.size w ((w10.setCell ⟨gb189, 0, none⟩ (.int .i64 ((rd_impl_Peg l0 x8_1).f0))).setCell ⟨gb189, 1, none⟩ (.int .i64 ((rd_impl_Peg l0 x8_1).f1)))) := ⟨bE⟩; (try clear BK189); (try clear HB)
    generalize ((w10.setCell ⟨gb189, 0, none⟩ (.int .i64 ((rd_impl_Peg l0 x8_1).f0))).setCell ⟨gb189, 1, none⟩ (.int .i64 ((rd_impl_Peg l0 x8_1).f1))) = w12 at n0_ n1_ ⊢
    have BK189 := n0_; have HB := n1_; clear n0_ n1_; replace BK189 := aM (kD BK189.out); replace HB := aM (pD HB.out); have p190 : 0 ≤ ((ji6) : Int) := dT aQ; have q190 : (ji6) < (l0.length : Int) := dT aQ; obtain ⟨ad190, e190, hx190_0, hx190_1⟩ := at_impl_Peg HR0.out (ji6) p190 q190; have hw190_1 := hx190_1; have hw190_0 := hx190_0; obtain rfl : ad188 = ad190 := (by injection e190)
    replace hx190_0 := hC HB hx190_0; replace hx190_1 := hC HB hx190_1; replace p190 := eq_true p190; replace q190 := eq_true q190
    refine start_ (n := 13) (S := fun w' => w'.cell? ⟨gb189, 0, none⟩ = some (.int .i64 ((rd_impl_Peg l0 x8_1).f0)) ∧ w'.cell? ⟨gb189, 1, none⟩ = some (.int .i64 ((rd_impl_Peg l0 x8_1).f1)) ∧ w'.cell? (ad188.add (((ji6)).toNat * 2)) = some (.int .i64 ((rd_impl_Peg l0 (ji6)).f0)) ∧ w'.cell? ⟨(ad188.add (((ji6)).toNat * 2)).block, (ad188.add (((ji6)).toNat * 2)).off + 1, none⟩ = some (.int .i64 ((rd_impl_Peg l0 (ji6)).f1))) (ds := []) (bA 13 0) kR rfl kR ⟨vZ0 BK189, vZ1 BK189, (hC HB hw190_0 :), (hC HB hw190_1 :)⟩ (fun hHeld => ?_); refine with_tabW spec_pgRound.tab5 spec_pgRound.bits5 (fun HT_ HW_ => ?_)
    generalize w12.drew = w13 at BK189 HB hx190_0 hx190_1 hHeld ⊢
    refine pU 0 13 (bA 13 1) HT_ ?_; refine pU 2 15 (bA 13 5) HT_ ?_; refine pU 3 16 (bA 13 13) HT_ ?_; refine pU 4 17 (bA 13 29) HT_ ?_; refine pU 5 18 (bA 13 61) HT_ ?_; refine pU 6 19 (bA 13 125) HT_ ?_; refine pU 7 20 (bA 13 253) HT_ ?_; refine pU 8 21 (bA 13 509) HT_ ?_
    refine tU 1 14 (bA 13 511) HT_ HW_ hHeld ?_ (hy := Or.inl ⟨by rfl, by rintro w' ⟨s0, s1, s2, s3⟩; go_simp; with_reducible rfl⟩)
    refine tU 9 22 (bA 13 1023) HT_ HW_ hHeld ?_ (hy := Or.inl ⟨by rfl, by rintro w' ⟨s0, s1, s2, s3⟩; go_simp; with_reducible rfl⟩)
    refine oU 10 23 (bA 13 2047) HT_ (fun K hK => ?_)
    refine goes_ Try.func134 kR rfl #[.agg #[.int .i64 ((rd_impl_Peg l0 x8_1).f0), .int .i64 ((rd_impl_Peg l0 x8_1).f1)], .agg #[.int .i64 ((rd_impl_Peg l0 (ji6)).f0), .int .i64 ((rd_impl_Peg l0 (ji6)).f1)]] (by rfl) rfl rfl (by (try simp only [mA, mC, mN]); first | done | (simp only [hji6]; rfl) | rfl | (simp only [lD, lT]; rfl)) ?_
    with_reducible refine (spec_pgStep.calls k1 ((rd_impl_Peg l0 x8_1).f0) ((rd_impl_Peg l0 x8_1).f1) ((rd_impl_Peg l0 (ji6)).f0) ((rd_impl_Peg l0 (ji6)).f1) t191 _ A9.out).mono ?_
    rintro e w14 ⟨rfl, hb⟩; refine ⟨_, rfl, ?_⟩; replace BK189 := bB BK189 hb; replace HB := tB HB hb; (try clear hb); (try clear hb2); (try clear hk); (try clear hi)
    refine hK.out _ _ ⟨vZ0 BK189, vZ1 BK189, (hC HB hw190_0 :), (hC HB hw190_1 :)⟩ (fun hHeld => ?_)
    clear hK K
    refine nU ?_
    refine pU 11 24 (bA 13 4095) HT_ ?_; refine pU 12 3 (bA 13 8191) HT_ ?_
    refine done_ (done_of HT_.out kR) ?_
    try go_wp2
    go_roundg k1
    case measure => have := HK1.out; omega
    case rel => exact ⟨(wrap64 (x3_1 + t191)), (wrap64 (x8_1 + 1)), eQ, eQ, H', ⟨by have := HK1.out; omega⟩, ⟨bE⟩⟩
   ·rw [if_neg c2] at H; have c2b0 := decide_eq_false c2; clear c2; obtain rfl := Option.some.inj H; go_wp2
    go_ret
    exact ⟨wQ, bQ⟩

def spec_pgInside.f (k : Nat) (l0 : List (S_impl_Peg)) : Option (Int) := (spec_pgArea.f k l0).bind fun t192 => ((spec_l1Abs.f t192).bind fun t193 => ((spec_pgRound.f k l0).bind fun t194 => (some (wrap64 (Int.tdiv (wrap64 ((wrap64 (t193 + 2)) - t194)) 2)))))
theorem spec_pgInside.mono : ∀ a0 k, LeO (spec_pgInside.f k a0) (spec_pgInside.f (k + 1) a0) := by
 intro a0 k
 unfold spec_pgInside.f
 repeat' first | (with_reducible exact spec_pgArea.mono _ _) | (with_reducible exact spec_pgRound.mono _ _) | (with_reducible exact LeO.refl _) | (with_reducible exact LeO.none _) | (with_reducible refine LeO.ite ?_ ?_) | (with_reducible refine LeO.bind ?_ (fun _ => ?_)) | exact spec_pgArea.mono _ _ | exact spec_pgRound.mono _ _ | exact LeO.none _ | refine LeO.ite ?_ ?_ | refine LeO.bind ?_ (fun _ => ?_)
set_option maxHeartbeats 8000000 in
set_option maxRecDepth 100000 in
theorem spec_pgInside.calls (k : Nat) (A0 : Option Addr) (c0 : Nat) (l0 : List (S_impl_Peg)) (r : Int) (w : World) (hr0 : Kd.C kd_impl_Peg w A0 l0.length l0) (hc0 : l0.length ≤ c0) (h : spec_pgInside.f k l0 = some r) :
  Calls Try.prog 114 #[.slice A0 l0.length c0] w fun e w' => e = .returned (.int .i64 r) ∧ Below w.heap.size w w' := by
 have HR0 := aM hr0; have HC0 := aM hc0; clear hr0 hc0; have HB := aM (Below.refl w.heap.size w)
 unfold spec_pgInside.f at h; have H := h; clear h
 replace H := bS H; obtain ⟨t192, A2, H⟩ := H; replace H := bS H; obtain ⟨t193, A3, H⟩ := H; replace H := bS H; obtain ⟨t194, A4, H⟩ := H; obtain rfl := Option.some.inj H
 go_enter Try.func114, Try.ntmps114
 go_wp2_with (first | ((with_reducible refine gC (f := 56) rfl ?_); refine goesL_ (some 4) rfl rfl Try.func56 kR rfl #[.slice A0 l0.length c0] rfl sQ ?_; (with_reducible refine (spec_pgArea.calls k _ _ l0 t192 _ ?side1 ?side2 A2.out).mono ?_); (case side1 => repeat (first | exact HR0.out | (with_reducible refine cA ?_ _) | (with_reducible refine cN ?_ _) | (with_reducible refine cD ?_))); (case side2 => exact HC0.out); rintro e w5 ⟨rfl, hb⟩; refine ⟨_, rfl, ?_⟩; replace HB := tB HB hb; (try clear hb); (try clear hb2); (try clear hk); (try clear hi)) | ((with_reducible refine gC (f := 127) rfl ?_); refine goesL_ (some 5) rfl rfl Try.func127 kR rfl #[.int .i64 t192] rfl sQ ?_; (with_reducible refine (spec_l1Abs.calls t192 t193 _ A3.out).mono ?_); rintro e w' ⟨rfl, ⟨nd, rfl⟩⟩; refine ⟨_, rfl, ?_⟩) | ((with_reducible refine gC (f := 103) rfl ?_); refine goesL_ (some 8) rfl rfl Try.func103 kR rfl #[.slice A0 l0.length c0] rfl sQ ?_; (with_reducible refine (spec_pgRound.calls k _ _ l0 t194 _ ?side1 ?side2 A4.out).mono ?_); (case side1 => repeat (first | exact (Kd.C_below HR0.out bQ) | (with_reducible refine cA ?_ _) | (with_reducible refine cN ?_ _) | (with_reducible refine cD ?_))); (case side2 => exact HC0.out); rintro e w6 ⟨rfl, hb⟩; refine ⟨_, rfl, ?_⟩; replace HB := tB HB hb; (try clear hb); (try clear hb2); (try clear hk); (try clear hi)))
 go_ret
 exact ⟨wQ, bQ⟩

def spec_duOne.f (k : Nat) (l0 : List (S_impl_Peg)) : Option (Bool) := (spec_pgGood.f k l0).bind fun t195 => (if t195 = true then ((spec_pgConvex.f k l0).bind fun t196 => (if t196 = true then ((spec_pgInside.f k l0).bind fun t197 => (if t197 = 1 then ((spec_pgWhere.f k l0 0 0).bind fun t198 => (some (decide (t198 > 0)))) else (some false))) else (some false))) else (some false))
theorem spec_duOne.mono : ∀ a0 k, LeO (spec_duOne.f k a0) (spec_duOne.f (k + 1) a0) := by
 intro a0 k
 unfold spec_duOne.f
 repeat' first | (with_reducible exact spec_pgConvex.mono _ _) | (with_reducible exact spec_pgGood.mono _ _) | (with_reducible exact spec_pgInside.mono _ _) | (with_reducible exact spec_pgWhere.mono _ _ _ _) | (with_reducible exact LeO.refl _) | (with_reducible exact LeO.none _) | (with_reducible refine LeO.ite ?_ ?_) | (with_reducible refine LeO.bind ?_ (fun _ => ?_)) | exact spec_pgConvex.mono _ _ | exact spec_pgGood.mono _ _ | exact spec_pgInside.mono _ _ | exact spec_pgWhere.mono _ _ _ _ | exact LeO.none _ | refine LeO.ite ?_ ?_ | refine LeO.bind ?_ (fun _ => ?_)
set_option maxHeartbeats 8000000 in
set_option maxRecDepth 100000 in
theorem spec_duOne.calls (k : Nat) (A0 : Option Addr) (c0 : Nat) (l0 : List (S_impl_Peg)) (r : Bool) (w : World) (hr0 : Kd.C kd_impl_Peg w A0 l0.length l0) (hc0 : l0.length ≤ c0) (h : spec_duOne.f k l0 = some r) :
  Calls Try.prog 67 #[.slice A0 l0.length c0] w fun e w' => e = .returned (.bool r) ∧ Below w.heap.size w w' := by
 have hu26 := Try.underlying26; have HR0 := aM hr0; have HC0 := aM hc0; clear hr0 hc0; have HB := aM (Below.refl w.heap.size w)
 unfold spec_duOne.f at h; have H := h; clear h
 replace H := bS H; obtain ⟨t195, A2, H⟩ := H
 by_cases c3 : t195 = true
 ·subst c3; replace H := iT H; replace H := bS H; obtain ⟨t196, A4, H⟩ := H
  by_cases c5 : t196 = true
  ·subst c5; replace H := iT H; replace H := bS H; obtain ⟨t197, A6, H⟩ := H
   by_cases c7 : t197 = 1
   ·rw [if_pos c7] at H; have c7b0 : (t197 == 1) = true := beq_iff_eq.mpr c7; have c7b1 : (t197 != 1) = false := bne_eq_false_iff_eq.mpr c7; clear c7; replace H := bS H; obtain ⟨t198, A8, H⟩ := H; obtain rfl := Option.some.inj H
    go_enter Try.func67, Try.ntmps67
    go_wp2_with (first | ((with_reducible refine gC (f := 63) rfl ?_); refine goesL_ (some 4) rfl rfl Try.func63 kR rfl #[.slice A0 l0.length c0] rfl sQ ?_; (with_reducible refine (spec_pgGood.calls k _ _ l0 true _ ?side1 ?side2 A2.out).mono ?_); (case side1 => repeat (first | exact HR0.out | (with_reducible refine cA ?_ _) | (with_reducible refine cN ?_ _) | (with_reducible refine cD ?_))); (case side2 => exact HC0.out); rintro e w9 ⟨rfl, hb⟩; refine ⟨_, rfl, ?_⟩; replace HB := tB HB hb; (try clear hb); (try clear hb2); (try clear hk); (try clear hi)) | (go_at_call 113; (with_reducible refine (spec_pgConvex.calls k _ _ l0 true _ ?side1 ?side2 A4.out).mono ?_); (case side1 => repeat (first | exact (Kd.C_below HR0.out HB.out) | (with_reducible refine cA ?_ _) | (with_reducible refine cN ?_ _) | (with_reducible refine cD ?_))); (case side2 => exact HC0.out); rintro e w10 ⟨rfl, hb⟩; replace HB := tB HB hb; (try clear hb); (try clear hb2); (try clear hk); (try clear hi)) | (go_at_call 114; (with_reducible refine (spec_pgInside.calls k _ _ l0 t197 _ ?side1 ?side2 A6.out).mono ?_); (case side1 => repeat (first | exact (Kd.C_below HR0.out HB.out) | (with_reducible refine cA ?_ _) | (with_reducible refine cN ?_ _) | (with_reducible refine cD ?_))); (case side2 => exact HC0.out); rintro e w11 ⟨rfl, hb⟩; replace HB := tB HB hb; (try clear hb); (try clear hb2); (try clear hk); (try clear hi)) | ((with_reducible refine gC (f := 96) rfl ?_); refine goesL_ (some 18) rfl rfl Try.func96 kR rfl #[.slice A0 l0.length c0, .agg #[.int .i64 0, .int .i64 0]] rfl sQ ?_; (with_reducible refine (spec_pgWhere.calls k _ _ l0 0 0 t198 _ ?side1 ?side2 A8.out).mono ?_); (case side1 => repeat (first | exact (Kd.C_below HR0.out HB.out) | (with_reducible refine cA ?_ _) | (with_reducible refine cN ?_ _) | (with_reducible refine cD ?_))); (case side2 => exact HC0.out); rintro e w12 ⟨rfl, hb⟩; refine ⟨_, rfl, ?_⟩; replace HB := tB HB hb; (try clear hb); (try clear hb2); (try clear hk); (try clear hi)))
    go_ret
    exact ⟨wQ, bQ⟩
   ·rw [if_neg c7] at H; have c7b0 : (t197 == 1) = false := beq_eq_false_iff_ne.mpr c7; have c7b1 : (t197 != 1) = true := bne_iff_ne.mpr c7; obtain rfl := Option.some.inj H
    go_enter Try.func67, Try.ntmps67
    go_wp2_with (first | ((with_reducible refine gC (f := 63) rfl ?_); refine goesL_ (some 4) rfl rfl Try.func63 kR rfl #[.slice A0 l0.length c0] rfl sQ ?_; (with_reducible refine (spec_pgGood.calls k _ _ l0 true _ ?side1 ?side2 A2.out).mono ?_); (case side1 => repeat (first | exact HR0.out | (with_reducible refine cA ?_ _) | (with_reducible refine cN ?_ _) | (with_reducible refine cD ?_))); (case side2 => exact HC0.out); rintro e w13 ⟨rfl, hb⟩; refine ⟨_, rfl, ?_⟩; replace HB := tB HB hb; (try clear hb); (try clear hb2); (try clear hk); (try clear hi)) | (go_at_call 113; (with_reducible refine (spec_pgConvex.calls k _ _ l0 true _ ?side1 ?side2 A4.out).mono ?_); (case side1 => repeat (first | exact (Kd.C_below HR0.out HB.out) | (with_reducible refine cA ?_ _) | (with_reducible refine cN ?_ _) | (with_reducible refine cD ?_))); (case side2 => exact HC0.out); rintro e w14 ⟨rfl, hb⟩; replace HB := tB HB hb; (try clear hb); (try clear hb2); (try clear hk); (try clear hi)) | (go_at_call 114; (with_reducible refine (spec_pgInside.calls k _ _ l0 t197 _ ?side1 ?side2 A6.out).mono ?_); (case side1 => repeat (first | exact (Kd.C_below HR0.out HB.out) | (with_reducible refine cA ?_ _) | (with_reducible refine cN ?_ _) | (with_reducible refine cD ?_))); (case side2 => exact HC0.out); rintro e w15 ⟨rfl, hb⟩; replace HB := tB HB hb; (try clear hb); (try clear hb2); (try clear hk); (try clear hi)))
    go_ret
    exact ⟨wQ, bQ⟩
  ·replace c5 := Bool.eq_false_iff.mpr c5; subst c5; replace H := iF H; obtain rfl := Option.some.inj H
   go_enter Try.func67, Try.ntmps67
   go_wp2_with (first | ((with_reducible refine gC (f := 63) rfl ?_); refine goesL_ (some 4) rfl rfl Try.func63 kR rfl #[.slice A0 l0.length c0] rfl sQ ?_; (with_reducible refine (spec_pgGood.calls k _ _ l0 true _ ?side1 ?side2 A2.out).mono ?_); (case side1 => repeat (first | exact HR0.out | (with_reducible refine cA ?_ _) | (with_reducible refine cN ?_ _) | (with_reducible refine cD ?_))); (case side2 => exact HC0.out); rintro e w16 ⟨rfl, hb⟩; refine ⟨_, rfl, ?_⟩; replace HB := tB HB hb; (try clear hb); (try clear hb2); (try clear hk); (try clear hi)) | (go_at_call 113; (with_reducible refine (spec_pgConvex.calls k _ _ l0 false _ ?side1 ?side2 A4.out).mono ?_); (case side1 => repeat (first | exact (Kd.C_below HR0.out HB.out) | (with_reducible refine cA ?_ _) | (with_reducible refine cN ?_ _) | (with_reducible refine cD ?_))); (case side2 => exact HC0.out); rintro e w17 ⟨rfl, hb⟩; replace HB := tB HB hb; (try clear hb); (try clear hb2); (try clear hk); (try clear hi)))
   go_ret
   exact ⟨wQ, bQ⟩
 ·replace c3 := Bool.eq_false_iff.mpr c3; subst c3; replace H := iF H; obtain rfl := Option.some.inj H
  go_enter Try.func67, Try.ntmps67
  go_wp2_with (first | ((with_reducible refine gC (f := 63) rfl ?_); refine goesL_ (some 4) rfl rfl Try.func63 kR rfl #[.slice A0 l0.length c0] rfl sQ ?_; (with_reducible refine (spec_pgGood.calls k _ _ l0 false _ ?side1 ?side2 A2.out).mono ?_); (case side1 => repeat (first | exact HR0.out | (with_reducible refine cA ?_ _) | (with_reducible refine cN ?_ _) | (with_reducible refine cD ?_))); (case side2 => exact HC0.out); rintro e w18 ⟨rfl, hb⟩; refine ⟨_, rfl, ?_⟩; replace HB := tB HB hb; (try clear hb); (try clear hb2); (try clear hk); (try clear hi)))
  go_ret
  exact ⟨wQ, bQ⟩

end Go.Proofs.Ytklhakfmegbobaa.X
