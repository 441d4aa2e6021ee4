-- thin
-- short
-- compact
import Derived.Test.YtfihohongkfibaaXA
import Derived.Test.YtfihohongkfibaaX0
namespace Go.Proofs.Ytfihohongkfibaa.X
open Go.RowKit Go.Proofs.Ytfihohongkfibaa.XW Go.Proofs.YtfihohongkfibaaW.PrintWords Go.Proofs.YtfihohongkfibaaW.PrintLast Go.Proofs.YtfihohongkfibaaW.PrintMore
attribute [local go_sem] max2_int min2_int max_two min_two max_three min_three max_four min_four   -- for this text's walks alone
set_option linter.unusedVariables false
set_option linter.unusedSimpArgs false

def spec_pgBack.l0 : Nat → List (S_impl_Peg) → List (S_impl_Peg) → Int → Option ((List (S_impl_Peg)))
 | 0, _, _, _ => none
 | k + 1, x0, x3, x4 => if x4 > 0 then (if 0 ≤ x4 then (if x4 < (x0.length : Int) then (if x3.length < 8796093022208 then (spec_pgBack.l0 k x0 (x3 ++ [(⟨(rd_impl_Peg x0 x4).f0, (rd_impl_Peg x0 x4).f1⟩ : S_impl_Peg)]) (wrap64 (x4 - 1))) else (none)) else (none)) else (none)) else (some x3)
def spec_pgBack.f (k : Nat) (l0 : List (S_impl_Peg)) : Option ((List (S_impl_Peg))) := if 0 < (l0.length : Int) then (spec_pgBack.l0 k l0 (([(⟨(rd_impl_Peg l0 0).f0, (rd_impl_Peg l0 0).f1⟩ : S_impl_Peg)] : List (S_impl_Peg))) (wrap64 ((l0.length : Int) - 1))) else (none)
theorem spec_pgBack.mono_l : ∀ k, (∀ y0 y1 y2, LeO (spec_pgBack.l0 k y0 y1 y2) (spec_pgBack.l0 (k + 1) y0 y1 y2))
 | 0 => fun _ _ _ r h => by simp [spec_pgBack.l0] at h
 | k + 1 => by
  have ih0 := spec_pgBack.mono_l k
  ·intro y0 y1 y2
   unfold spec_pgBack.l0
   repeat' first
   | (with_reducible exact ih0 _ _ _)
   | (with_reducible exact LeO.refl _)
   | (with_reducible exact LeO.none _)
   | (with_reducible refine LeO.ite ?_ ?_)
   | (with_reducible refine LeO.bind ?_ (fun _ => ?_))
   | exact ih0 _ _ _
   | exact LeO.none _
   | refine LeO.ite ?_ ?_
   | refine LeO.bind ?_ (fun _ => ?_)
theorem spec_pgBack.mono : ∀ a0 k, LeO (spec_pgBack.f k a0) (spec_pgBack.f (k + 1) a0) := by
 intro a0 k
 have ih0 := spec_pgBack.mono_l k
 unfold spec_pgBack.f
 repeat' first | (with_reducible exact ih0 _ _ _) | (with_reducible exact LeO.refl _) | (with_reducible exact LeO.none _) | (with_reducible refine LeO.ite ?_ ?_) | (with_reducible refine LeO.bind ?_ (fun _ => ?_)) | exact ih0 _ _ _ | exact LeO.none _ | refine LeO.ite ?_ ?_ | refine LeO.bind ?_ (fun _ => ?_)
set_option maxHeartbeats 8000000 in
set_option maxRecDepth 100000 in
theorem spec_pgBack.calls (k : Nat) (A0 : Option Addr) (c0 : Nat) (l0 : List (S_impl_Peg)) (r : List (S_impl_Peg)) (w : World) (hr0 : Kd.C kd_impl_Peg w A0 l0.length l0) (hc0 : l0.length ≤ c0) (h : spec_pgBack.f k l0 = some r) :
  Calls Try.prog 97 #[.slice A0 l0.length c0] w fun e w' => ∃ v0_ : Value, e = .returned (v0_) ∧ Kd.R kd_impl_Peg 50 w' w.heap.size (fun _ => True) v0_ r ∧ Below w.heap.size w w' := by
 have hu50 := Try.underlying50; have HR0 := aM hr0; have HC0 := aM hc0; clear hr0 hc0; have HB := aM (Below.refl w.heap.size w)
 unfold spec_pgBack.f at h; have H := h; clear h
 replace H := iN H; obtain ⟨c2, H⟩ := H; have c2b0 := dE c2; have c2b1 : decide (0 < l0.length) = true := dE (by omega)
 clear c2; obtain ⟨y166, hy166⟩ : ∃ y_ : List (S_impl_Peg), y_ = (([(⟨(rd_impl_Peg l0 0).f0, (rd_impl_Peg l0 0).f1⟩ : S_impl_Peg)] : List (S_impl_Peg))) := ⟨_, rfl⟩; rw [← hy166] at H; have Ny166 := aM hy166; clear hy166; have H' := aM H; clear H; have p165 : 0 ≤ (0 : Int) := (by omega)
 have q165 : 0 < (l0.length : Int) := dT aQ; obtain ⟨ad165, e165, hx165_0, hx165_1⟩ := at_impl_Peg HR0.out 0 p165 q165
 cases e165
 have qi165 : (0 < l0.length) = True := eq_true (by omega)
 (try rw [show ((0 : Int)).toNat = 0 from rfl] at hx165_0)
 (try rw [show 0 * 2 = 0 from rfl] at hx165_0)
 (try rw [Addr.add_zero'] at hx165_0)
 (try rw [show ((0 : Int)).toNat = 0 from rfl] at hx165_1)
 (try rw [show 0 * 2 = 0 from rfl] at hx165_1)
 (try rw [Addr.add_zero'] at hx165_1)
 replace p165 := eq_true p165; replace q165 := eq_true q165
 go_enter Try.func97, Try.ntmps97
 go_wp2_with (first | ((with_reducible refine gate_dst (N := 8) rfl ?_); refine Kd.R_lit kd_impl_Peg _ 50 ?hg (N := 8) ?hd (xs := ([(⟨(rd_impl_Peg l0 0).f0, (rd_impl_Peg l0 0).f1⟩ : S_impl_Peg)] : List (S_impl_Peg))) (inner := [.int .i64 ((rd_impl_Peg l0 0).f0), .int .i64 ((rd_impl_Peg l0 0).f1)]) (ok := fun _ => True) (okp := fun _ => True) ?hr ?hp (fun _ hk => hk) trivial (Below.refl _ _) (Nat.le_refl _) (by simp) ?_; (case hd => rfl); (case hg => rfl); (case hr => first | (go_simp; done) | (go_simp; rfl)); (case hp => exact (Reps.c2 (show Kd.M kd_impl_Peg _ _ _ (⟨(rd_impl_Peg l0 0).f0, (rd_impl_Peg l0 0).f1⟩ : S_impl_Peg) [.int .i64 ((rd_impl_Peg l0 0).f0), .int .i64 ((rd_impl_Peg l0 0).f1)] from (kd_impl_Peg_mkM _ _ _ (⟨(rd_impl_Peg l0 0).f0, (rd_impl_Peg l0 0).f1⟩ : S_impl_Peg) )) (Reps.none _ _))); intro v167 w3 ho4 hb hg_ hnew_; clear hg_ hnew_; (first | rw [← Ny166.out] at ho4 | (simp only [Int.reduceToNat] at ho4; rw [← Ny166.out] at ho4)); have HO168 := aM (Kd.R_lower ho4 (pZ bQ)); replace HB := tB HB hb; clear hb ho4))
 go_loopg [3, 4] k (fun kq v3 v4 w' => ∃ (x3_1 : List (S_impl_Peg)) (x4_1 : Int), v4 = .int .i64 x4_1 ∧ Aside0 (spec_pgBack.l0 kq l0 x3_1 x4_1 = some r) ∧ Aside0 (kq ≤ k) ∧ Aside0 (Kd.R kd_impl_Peg 50 w' w.heap.size (fun _ => True) v3 x3_1) ∧ Aside0 (Below w.heap.size w w'))
 case atStart => exact ⟨(y166), (wrap64 ((l0.length : Int) - 1)), eQ, H', ⟨Nat.le_refl _⟩, ⟨by (with_reducible repeat (first | apply rA | apply rN | apply rD)); exact HO168.out⟩, ⟨bQ⟩⟩
 case round =>
  clear H'; (try clear c2); (try clear c2b0); (try clear c2b1); (try clear hx165_0); (try clear hx165_1); (try clear p165); (try clear q165); obtain ⟨x3_1, x4_1, rfl, HA, HK1, HO_3, HB⟩ := hrel
  cases gk with
  | zero => exact absurd HA.out (by simp [spec_pgBack.l0])
  | succ k1 =>
   have H := HA.out; clear HA
   simp only [spec_pgBack.l0] at H
   by_cases c5 : x4_1 > 0
   ·rw [if_pos c5] at H; have c5b0 := dE c5; clear c5; replace H := iD H; obtain ⟨c6b0, H⟩ := H; replace H := iD H; obtain ⟨c7b0, H⟩ := H; replace H := iN H; obtain ⟨c8, H⟩ := H; have LMc8 := aM c8; clear c8; obtain ⟨y170, hy170⟩ : ∃ y_ : List (S_impl_Peg), y_ = (x3_1 ++ [(⟨(rd_impl_Peg l0 x4_1).f0, (rd_impl_Peg l0 x4_1).f1⟩ : S_impl_Peg)]) := ⟨_, rfl⟩; rw [← hy170] at H; have Ny170 := aM hy170; clear hy170; have H' := aM H; clear H; have p169 : 0 ≤ (x4_1 : Int) := dT aQ; have q169 : x4_1 < (l0.length : Int) := dT aQ; obtain ⟨ad169, e169, hx169_0, hx169_1⟩ := at_impl_Peg HR0.out x4_1 p169 q169; obtain rfl : ad165 = ad169 := (by injection e169)
    replace hx169_0 := hC HB hx169_0; replace hx169_1 := hC HB hx169_1; replace p169 := eq_true p169; replace q169 := eq_true q169
    go_wp2_with (first | ((with_reducible refine gate_builtin (b := .append) (xs := #[.tmp 16, .tmp 21]) rfl ?_); at_builtin; refine Kd.R_append kd_impl_Peg (w0 := w) w.heap.size rfl (.tmp 16) (.tmp 21) 24 50 (.agg #[(.int .i64 0), (.int .i64 0)]) 16 rfl Try.underlying24 info50 rfl (by decide) (by omega) u3 x3_1 (⟨(rd_impl_Peg l0 x4_1).f0, (rd_impl_Peg l0 x4_1).f1⟩ : S_impl_Peg) [.int .i64 ((rd_impl_Peg l0 x4_1).f0), .int .i64 ((rd_impl_Peg l0 x4_1).f1)] (fun _ => True) (fun _ => False) rfl rfl ?aP (fun _ hk => hk.elim) ?aF ?aO ?aB ?aS ?aL ?_; (case aP => exact kd_impl_Peg_mkM _ _ _ (⟨(rd_impl_Peg l0 x4_1).f0, (rd_impl_Peg l0 x4_1).f1⟩ : S_impl_Peg)); (case aB => exact bQ); (case aF => exact (fun _ _ => trivial)); (case aO => exact (by (with_reducible repeat (first | apply rA | apply rN | apply rD)); exact HO_3.out)); (case aS => exact (pZ bQ)); (case aL => have := LMc8.out; omega); intro v171 w9 ho hb hg hat; rw [← Ny170.out] at ho; have n0_ := aM (hb); have n1_ := aM (ho); clear HB; clear HO_3; have HB := n0_; have HO172 := n1_; clear n0_ n1_; clear ho hb hg hat))
    go_roundg k1
    case measure => have := HK1.out; omega
    case rel => exact ⟨(y170), (wrap64 (x4_1 - 1)), eQ, H', ⟨by have := HK1.out; omega⟩, ⟨by (with_reducible repeat (first | apply rA | apply rN | apply rD)); exact HO172.out⟩, ⟨bQ⟩⟩
   ·rw [if_neg c5] at H; have c5b0 := decide_eq_false c5; clear c5; obtain rfl := Option.some.inj H; go_wp2
    go_ret
    exact ⟨_, by first | rfl | (simp [errW_none, errW_some] <;> rfl) | (simp [*, errW_none, errW_some] <;> rfl), by (with_reducible repeat (first | apply rA | apply rN | apply rD)); exact HO_3.out, bQ⟩
def spec_l1Most.f (a0 : Int) (a1 : Int) : Option (Int) := if a0 > a1 then (some a0) else (some a1)
set_option maxHeartbeats 8000000 in
set_option maxRecDepth 100000 in
theorem spec_l1Most.calls (a0 : Int) (a1 : Int) (r : Int) (w : World) (h : spec_l1Most.f a0 a1 = some r) :
  Calls Try.prog 84 #[.int .i64 a0, .int .i64 a1] w fun e w' => e = .returned (.int .i64 r) ∧ Drawn0 w w' := by
 unfold spec_l1Most.f at h; have H := h; clear h
 by_cases c3 : a0 > a1
 ·rw [if_pos c3] at H; have c3b0 := dE c3; clear c3; obtain rfl := Option.some.inj H
  go_enter Try.func84, Try.ntmps84
  go_wp2
  go_ret
  exact ⟨eQ, dQ⟩
 ·rw [if_neg c3] at H; have c3b0 := decide_eq_false c3; clear c3; obtain rfl := Option.some.inj H
  go_enter Try.func84, Try.ntmps84
  go_wp2
  go_ret
  exact ⟨eQ, dQ⟩

def spec_l1Abs.f (a0 : Int) : Option (Int) := (spec_l1Most.f a0 (wrap64 (-a0))).bind fun t173 => (some t173)
set_option maxHeartbeats 8000000 in
set_option maxRecDepth 100000 in
theorem spec_l1Abs.calls (a0 : Int) (r : Int) (w : World) (h : spec_l1Abs.f a0 = some r) :
  Calls Try.prog 114 #[.int .i64 a0] w fun e w' => e = .returned (.int .i64 r) ∧ Drawn0 w w' := by
 unfold spec_l1Abs.f at h; have H := h; clear h
 replace H := bS H; obtain ⟨t173, A2, H⟩ := H; obtain rfl := Option.some.inj H
 go_enter Try.func114, Try.ntmps114
 go_wp2_with (first | ((with_reducible refine gC (f := 84) rfl ?_); refine goesL_ (some 6) rfl rfl Try.func84 kR rfl #[.int .i64 a0, .int .i64 (wrap64 (-a0))] rfl sQ ?_; (with_reducible refine (spec_l1Most.calls a0 (wrap64 (-a0)) t173 _ A2.out).mono ?_); rintro e w' ⟨rfl, ⟨nd, rfl⟩⟩; refine ⟨_, rfl, ?_⟩))
 go_ret
 exact ⟨eQ, dQ⟩

def spec_pgCommon.l0 : Nat → Int → Int → Option (Int)
 | 0, _, _ => none
 | k + 1, x0, x1 => if x1 > 0 then (if x1 = 0 then (none) else (spec_pgCommon.l0 k x1 (Int.tmod x0 x1))) else (some x0)
def spec_pgCommon.f (k : Nat) (a0 : Int) (a1 : Int) : Option (Int) := (spec_l1Abs.f a0).bind fun t174 => ((spec_l1Abs.f a1).bind fun t175 => (spec_pgCommon.l0 k t174 t175))
theorem spec_pgCommon.mono_l : ∀ k, (∀ y0 y1, LeO (spec_pgCommon.l0 k y0 y1) (spec_pgCommon.l0 (k + 1) y0 y1))
 | 0 => fun _ _ r h => by simp [spec_pgCommon.l0] at h
 | k + 1 => by
  have ih0 := spec_pgCommon.mono_l k
  ·intro y0 y1
   unfold spec_pgCommon.l0
   repeat' first
   | (with_reducible exact ih0 _ _)
   | (with_reducible exact LeO.refl _)
   | (with_reducible exact LeO.none _)
   | (with_reducible refine LeO.ite ?_ ?_)
   | (with_reducible refine LeO.bind ?_ (fun _ => ?_))
   | exact ih0 _ _
   | exact LeO.none _
   | refine LeO.ite ?_ ?_
   | refine LeO.bind ?_ (fun _ => ?_)
theorem spec_pgCommon.mono : ∀ a0 a1 k, LeO (spec_pgCommon.f k a0 a1) (spec_pgCommon.f (k + 1) a0 a1) := by
 intro a0 a1 k
 have ih0 := spec_pgCommon.mono_l k
 unfold spec_pgCommon.f
 repeat' first | (with_reducible exact ih0 _ _) | (with_reducible exact LeO.refl _) | (with_reducible exact LeO.none _) | (with_reducible refine LeO.ite ?_ ?_) | (with_reducible refine LeO.bind ?_ (fun _ => ?_)) | exact ih0 _ _ | exact LeO.none _ | refine LeO.ite ?_ ?_ | refine LeO.bind ?_ (fun _ => ?_)
set_option maxHeartbeats 8000000 in
set_option maxRecDepth 100000 in
theorem spec_pgCommon.calls (k : Nat) (a0 : Int) (a1 : Int) (r : Int) (w : World) (h : spec_pgCommon.f k a0 a1 = some r) :
  Calls Try.prog 71 #[.int .i64 a0, .int .i64 a1] w fun e w' => e = .returned (.int .i64 r) ∧ Drawn0 w w' := by
 unfold spec_pgCommon.f at h; have H := h; clear h
 replace H := bS H; obtain ⟨t174, A3, H⟩ := H; replace H := bS H; obtain ⟨t175, A4, H⟩ := H; have H' := aM H; clear H
 go_enter Try.func71, Try.ntmps71
 go_wp2_with (first | (go_at_call 114; (with_reducible refine (spec_l1Abs.calls a0 t174 _ A3.out).mono ?_); rintro e w' ⟨rfl, ⟨nd, rfl⟩⟩; (try first | exact ⟨rfl, _, World.drewN_drewN _ _ _⟩ | exact ⟨rfl, _, Eq.trans (World.drewN_drewN _ _ _) (congrArg (World.drewN _) (Nat.add_assoc _ _ _))⟩)) | (go_at_call 114; (with_reducible refine (spec_l1Abs.calls a1 t175 _ A4.out).mono ?_); rintro e w' ⟨rfl, ⟨nd, rfl⟩⟩; (try first | exact ⟨rfl, _, World.drewN_drewN _ _ _⟩ | exact ⟨rfl, _, Eq.trans (World.drewN_drewN _ _ _) (congrArg (World.drewN _) (Nat.add_assoc _ _ _))⟩)))
 repeat (go_quiet (first | (go_at_call 114; (with_reducible refine (spec_l1Abs.calls a0 t174 _ A3.out).mono ?_); rintro e w' ⟨rfl, ⟨nd, rfl⟩⟩; (try first | exact ⟨rfl, _, World.drewN_drewN _ _ _⟩ | exact ⟨rfl, _, Eq.trans (World.drewN_drewN _ _ _) (congrArg (World.drewN _) (Nat.add_assoc _ _ _))⟩)) | (go_at_call 114; (with_reducible refine (spec_l1Abs.calls a1 t175 _ A4.out).mono ?_); rintro e w' ⟨rfl, ⟨nd, rfl⟩⟩; (try first | exact ⟨rfl, _, World.drewN_drewN _ _ _⟩ | exact ⟨rfl, _, Eq.trans (World.drewN_drewN _ _ _) (congrArg (World.drewN _) (Nat.add_assoc _ _ _))⟩))); try go_wp2_with (first | (go_at_call 114; (with_reducible refine (spec_l1Abs.calls a0 t174 _ A3.out).mono ?_); rintro e w' ⟨rfl, ⟨nd, rfl⟩⟩; (try first | exact ⟨rfl, _, World.drewN_drewN _ _ _⟩ | exact ⟨rfl, _, Eq.trans (World.drewN_drewN _ _ _) (congrArg (World.drewN _) (Nat.add_assoc _ _ _))⟩)) | (go_at_call 114; (with_reducible refine (spec_l1Abs.calls a1 t175 _ A4.out).mono ?_); rintro e w' ⟨rfl, ⟨nd, rfl⟩⟩; (try first | exact ⟨rfl, _, World.drewN_drewN _ _ _⟩ | exact ⟨rfl, _, Eq.trans (World.drewN_drewN _ _ _) (congrArg (World.drewN _) (Nat.add_assoc _ _ _))⟩))))
 go_loopg [0, 1] k (fun kq v0 v1 w' => ∃ (x0_1 : Int) (x1_1 : Int), v0 = .int .i64 x0_1 ∧ v1 = .int .i64 x1_1 ∧ Aside0 (spec_pgCommon.l0 kq x0_1 x1_1 = some r) ∧ Aside0 (kq ≤ k) ∧ Drawn0 w w')
 case atStart => exact ⟨(t174), (t175), eQ, eQ, H', ⟨Nat.le_refl _⟩, dQ⟩
 case round =>
  clear H'; obtain ⟨x0_1, x1_1, rfl, rfl, HA, HK1, ⟨m1, rfl⟩⟩ := hrel
  cases gk with
  | zero => exact absurd HA.out (by simp [spec_pgCommon.l0])
  | succ k1 =>
   have H := HA.out; clear HA
   simp only [spec_pgCommon.l0] at H
   by_cases c5 : x1_1 > 0
   ·rw [if_pos c5] at H; have c5b0 := dE c5; clear c5; replace H := iM H; obtain ⟨c6, H⟩ := H; have c6b0 : (x1_1 == 0) = false := beq_eq_false_iff_ne.mpr c6; have c6b1 : (x1_1 != 0) = true := bne_iff_ne.mpr c6; have H' := aM H; clear H; go_wp2
    repeat (go_quiet (fail); try go_wp2)
    go_roundg k1
    case measure => have := HK1.out; omega
    case rel => exact ⟨(x1_1), (Int.tmod x0_1 x1_1), eQ, eQ, H', ⟨by have := HK1.out; omega⟩, dQ⟩
   ·rw [if_neg c5] at H; have c5b0 := decide_eq_false c5; clear c5; obtain rfl := Option.some.inj H; go_wp2
    repeat (go_quiet (fail); try go_wp2)
    go_ret
    exact ⟨eQ, dQ⟩

def spec_mvPeg.f (a0_0 : Int) (a0_1 : Int) (a0_2 : Int) (a0_3 : Int) (a0_4 : Int) (a0_5 : Int) (a1_0 : Int) (a1_1 : Int) : Option (Int × Int) := some (wrap64 ((wrap64 ((wrap64 (a0_0 * a1_0)) + (wrap64 (a0_1 * a1_1)))) + a0_4), wrap64 ((wrap64 ((wrap64 (a0_2 * a1_0)) + (wrap64 (a0_3 * a1_1)))) + a0_5))
set_option maxHeartbeats 8000000 in
set_option maxRecDepth 100000 in
theorem spec_mvPeg.calls (a0_0 : Int) (a0_1 : Int) (a0_2 : Int) (a0_3 : Int) (a0_4 : Int) (a0_5 : Int) (a1_0 : Int) (a1_1 : Int) (r1 : Int) (r2 : Int) (w : World) (h : spec_mvPeg.f a0_0 a0_1 a0_2 a0_3 a0_4 a0_5 a1_0 a1_1 = some (r1, r2)) :
  Calls Try.prog 136 #[.agg #[.int .i64 a0_0, .int .i64 a0_1, .int .i64 a0_2, .int .i64 a0_3, .int .i64 a0_4, .int .i64 a0_5], .agg #[.int .i64 a1_0, .int .i64 a1_1]] w fun e w' => e = .returned (.agg #[.int .i64 r1, .int .i64 r2]) ∧ Below w.heap.size w w' := by
 have hu36 := Try.underlying36; have hu50 := Try.underlying50; have HB := aM (Below.refl w.heap.size w)
 unfold spec_mvPeg.f at h; have H := h; clear h
 simp only [Option.some.injEq, Prod.mk.injEq] at H
 obtain ⟨rfl, rfl⟩ := H
 go_enter Try.func136, Try.ntmps136
 go_wp2_with (first | ((with_reducible refine gate_dst (N := 2) rfl ?_); refine bV 2 (cs := #[.int .i64 a0_0, .int .i64 a0_1, .int .i64 a0_2, .int .i64 a0_3, .int .i64 a0_4, .int .i64 a0_5]) (t := 36) rfl rfl (by first | (go_simp; done) | (go_simp; rfl)) ?_; intro gb176 hg w3 hbox hb; have BK176 := hbox; have GW176 := gZ HB hg; have GE176 := gZ HB hg; replace HB := tB HB hb; clear hb hbox hg) | ((with_reducible refine gate_dst (N := 3) rfl ?_); refine bV 3 (cs := #[.int .i64 a1_0, .int .i64 a1_1]) (t := 50) rfl rfl (by first | (go_simp; done) | (go_simp; rfl)) ?_; intro gb177 hg w4 hbox hb; have BK177 := hbox; have GW177 := gZ HB hg; have GE177 := gZ HB hg; have NB176_177 := nG BK176 hg; have NB177_176 := nH BK176 hg; replace BK176 := bB BK176 hb; replace HB := tB HB hb; clear hb hbox hg) | ((with_reducible refine gate_dst (N := 4) rfl ?_); refine bV 4 (cs := #[.int .i64 0, .int .i64 0]) (t := 50) rfl rfl (by first | (go_simp; done) | (go_simp; rfl)) ?_; intro gb178 hg w5 hbox hb; have BK178 := hbox; have GW178 := gZ HB hg; have GE178 := gZ HB hg; have NB176_178 := nG BK176 hg; have NB178_176 := nH BK176 hg; have NB177_178 := nG BK177 hg; have NB178_177 := nH BK177 hg; replace BK176 := bB BK176 hb; replace BK177 := bB BK177 hb; replace HB := tB HB hb; clear hb hbox hg; have hnb6 := NB176_177.out; have hnc6 := NB177_176.out; have hnb7 := NB176_178.out; have hnc7 := NB178_176.out; have hcz8_0 := vZ0 BK176; have hcz8_1 := vZ1 BK176; have hcz8_2 := vZ2 BK176; have hcz8_3 := vZ3 BK176; have hcz8_4 := vZ4 BK176; have hcz8_5 := vZ5 BK176; have hfz8_0 := kF BK176.out 0; have hfz8_1 := kF BK176.out 1; have hfz8_2 := kF BK176.out 2; have hfz8_3 := kF BK176.out 3; have hfz8_4 := kF BK176.out 4; have hfz8_5 := kF BK176.out 5; have hnb9 := NB177_178.out; have hnc9 := NB178_177.out; have hcz10_0 := vZ0 BK177; have hcz10_1 := vZ1 BK177; have hfz10_0 := kF BK177.out 0; have hfz10_1 := kF BK177.out 1; have hcz11_0 := vZ0 BK178; have hcz11_1 := vZ1 BK178; have hfz11_0 := kF BK178.out 0; have hfz11_1 := kF BK178.out 1))
 refine bodyPost_ret (results_cell_row rfl _ _ gb178 50 #[.int .i64 (wrap64 ((wrap64 ((wrap64 (a0_0 * a1_0)) + (wrap64 (a0_1 * a1_1)))) + a0_4)), .int .i64 (wrap64 ((wrap64 ((wrap64 (a0_2 * a1_0)) + (wrap64 (a0_3 * a1_1)))) + a0_5))] (0, 0) _ rfl (fQ BK178) Try.underlying50 rfl kR) rfl ?_
 exact ⟨wQ, bE⟩

def spec_mvFull.l0 : Nat → Int → Int → Int → Int → Int → Int → Option (Int × Int)
 | 0, _, _, _, _, _, _ => none
 | k + 1, x0, x1, x6, x7, x8, x9 => if x1 = 0 then (if x0 < 0 then (some (wrap64 (-x6), wrap64 (-x7))) else (some (x6, x7))) else (spec_mvFull.l0 k x1 (wrap64 (x0 - (wrap64 ((wrap64 (Int.tdiv x0 x1)) * x1)))) x8 x9 (wrap64 (x6 - (wrap64 ((wrap64 (Int.tdiv x0 x1)) * x8)))) (wrap64 (x7 - (wrap64 ((wrap64 (Int.tdiv x0 x1)) * x9)))))
def spec_mvFull.f (k : Nat) (a0 : Int) (a1 : Int) : Option (Int × Int) := spec_mvFull.l0 k a0 a1 1 0 0 1
theorem spec_mvFull.mono_l : ∀ k, (∀ y0 y1 y2 y3 y4 y5, LeO (spec_mvFull.l0 k y0 y1 y2 y3 y4 y5) (spec_mvFull.l0 (k + 1) y0 y1 y2 y3 y4 y5))
 | 0 => fun _ _ _ _ _ _ r h => by simp [spec_mvFull.l0] at h
 | k + 1 => by
  have ih0 := spec_mvFull.mono_l k
  ·intro y0 y1 y2 y3 y4 y5
   unfold spec_mvFull.l0
   repeat' first
   | (with_reducible exact ih0 _ _ _ _ _ _)
   | (with_reducible exact LeO.refl _)
   | (with_reducible exact LeO.none _)
   | (with_reducible refine LeO.ite ?_ ?_)
   | (with_reducible refine LeO.bind ?_ (fun _ => ?_))
   | exact ih0 _ _ _ _ _ _
   | exact LeO.none _
   | refine LeO.ite ?_ ?_
   | refine LeO.bind ?_ (fun _ => ?_)
theorem spec_mvFull.mono : ∀ a0 a1 k, LeO (spec_mvFull.f k a0 a1) (spec_mvFull.f (k + 1) a0 a1) := by
 intro a0 a1 k
 have ih0 := spec_mvFull.mono_l k
 unfold spec_mvFull.f
 repeat' first | (with_reducible exact ih0 _ _ _ _ _ _) | (with_reducible exact LeO.refl _) | (with_reducible exact LeO.none _) | (with_reducible refine LeO.ite ?_ ?_) | (with_reducible refine LeO.bind ?_ (fun _ => ?_)) | exact ih0 _ _ _ _ _ _ | exact LeO.none _ | refine LeO.ite ?_ ?_ | refine LeO.bind ?_ (fun _ => ?_)
set_option maxHeartbeats 8000000 in
set_option maxRecDepth 100000 in
theorem spec_mvFull.calls (k : Nat) (a0 : Int) (a1 : Int) (r1 : Int) (r2 : Int) (w : World) (h : spec_mvFull.f k a0 a1 = some (r1, r2)) :
  Calls Try.prog 146 #[.int .i64 a0, .int .i64 a1] w fun e w' => e = .returned (.tuple #[.int .i64 r1, .int .i64 r2]) ∧ Drawn0 w w' := by
 unfold spec_mvFull.f at h; have H := h; clear h
 have H' := aM H; clear H
 go_enter Try.func146, Try.ntmps146
 go_wp2
 go_loopg [0, 1, 6, 7, 8, 9] k (fun kq v0 v1 v6 v7 v8 v9 w' => ∃ (x0_1 : Int) (x1_1 : Int) (x6_1 : Int) (x7_1 : Int) (x8_1 : Int) (x9_1 : Int), v0 = .int .i64 x0_1 ∧ v1 = .int .i64 x1_1 ∧ v6 = .int .i64 x6_1 ∧ v7 = .int .i64 x7_1 ∧ v8 = .int .i64 x8_1 ∧ v9 = .int .i64 x9_1 ∧ Aside0 (spec_mvFull.l0 kq x0_1 x1_1 x6_1 x7_1 x8_1 x9_1 = some (r1, r2)) ∧ Aside0 (kq ≤ k) ∧ Drawn0 w w')
 case atStart => exact ⟨(a0), (a1), (1), (0), (0), (1), eQ, eQ, eQ, eQ, eQ, eQ, H', ⟨Nat.le_refl _⟩, dQ⟩
 case round =>
  clear H'; obtain ⟨x0_1, x1_1, x6_1, x7_1, x8_1, x9_1, rfl, rfl, rfl, rfl, rfl, rfl, HA, HK1, ⟨m1, rfl⟩⟩ := hrel
  cases gk with
  | zero => exact absurd HA.out (by simp [spec_mvFull.l0])
  | succ k1 =>
   have H := HA.out; clear HA
   simp only [spec_mvFull.l0] at H
   by_cases c3 : x1_1 = 0
   ·rw [if_pos c3] at H; have c3b0 : (x1_1 == 0) = true := beq_iff_eq.mpr c3; have c3b1 : (x1_1 != 0) = false := bne_eq_false_iff_eq.mpr c3; clear c3
    by_cases c4 : x0_1 < 0
    ·rw [if_pos c4] at H; have c4b0 := dE c4; clear c4
     simp only [Option.some.injEq, Prod.mk.injEq] at H
     obtain ⟨rfl, rfl⟩ := H; go_wp2
     go_ret2
     exact ⟨eQ, dQ⟩
    ·rw [if_neg c4] at H; have c4b0 := decide_eq_false c4; clear c4
     simp only [Option.some.injEq, Prod.mk.injEq] at H
     obtain ⟨rfl, rfl⟩ := H; go_wp2
     go_ret2
     exact ⟨eQ, dQ⟩
   ·rw [if_neg c3] at H; have c3b0 : (x1_1 == 0) = false := beq_eq_false_iff_ne.mpr c3; have c3b1 : (x1_1 != 0) = true := bne_iff_ne.mpr c3; have H' := aM H; clear H; go_wp2
    go_roundg k1
    case measure => have := HK1.out; omega
    case rel => exact ⟨(x1_1), (wrap64 (x0_1 - (wrap64 ((wrap64 (Int.tdiv x0_1 x1_1)) * x1_1)))), (x8_1), (x9_1), (wrap64 (x6_1 - (wrap64 ((wrap64 (Int.tdiv x0_1 x1_1)) * x8_1)))), (wrap64 (x7_1 - (wrap64 ((wrap64 (Int.tdiv x0_1 x1_1)) * x9_1)))), eQ, eQ, eQ, eQ, eQ, eQ, H', ⟨by have := HK1.out; omega⟩, dQ⟩

end Go.Proofs.Ytfihohongkfibaa.X
