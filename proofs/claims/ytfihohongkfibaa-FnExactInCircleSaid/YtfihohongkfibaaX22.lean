-- thin
-- short
-- compact
import Derived.Test.YtfihohongkfibaaXA
import Derived.Test.YtfihohongkfibaaX0
import Derived.Test.YtfihohongkfibaaX2
import Derived.Test.YtfihohongkfibaaX20
import Derived.Test.YtfihohongkfibaaX21
namespace Go.Proofs.Ytfihohongkfibaa.X
open Go.RowKit Go.Proofs.Ytfihohongkfibaa.XW Go.Proofs.YtfihohongkfibaaW.PrintWords Go.Proofs.YtfihohongkfibaaW.PrintLast Go.Proofs.YtfihohongkfibaaW.PrintMore
attribute [local go_sem] max2_int min2_int max_two min_two max_three min_three max_four min_four   -- for this text's walks alone
set_option linter.unusedVariables false
set_option linter.unusedSimpArgs false

def laws_FnExactInCircle.j0 : Nat → List (S_laws_Peg) → List (S_impl_Peg) → Bool → Option (Bool)
 | 0, _, _, _ => none
 | k + 1, x0, x8, x40 => if x40 = true then (some false) else ((laws_toPegS.f k x0).bind fun t404 => ((laws_eqPegS.f k x8 t404).bind fun t407 => (if t407 = true then (some true) else (some false))))
def laws_FnExactInCircle.f (k : Nat) (l0 : List (S_laws_Peg)) (a1_0 : Int) (a1_1 : Int) : Option (Bool) := (laws_szPegS.f l0 1048576).bind fun t389 => (if t389 < 0 then (some true) else ((laws_toPegS.f k l0).bind fun t390 => ((laws_toPeg.f a1_0 a1_1).bind fun bt393 => ((spec_InCircle.f k t390 bt393.1 bt393.2).bind fun bt395 => ((laws_toPegS.f k l0).bind fun t397 => ((laws_toPeg.f a1_0 a1_1).bind fun bt400 => ((impl_InCircle.f k t397 bt400.1 bt400.2).bind fun bt402 => (if bt402.1 = bt395.1 then (laws_FnExactInCircle.j0 k l0 t397 (bt402.2 != bt395.2)) else (laws_FnExactInCircle.j0 k l0 t397 true)))))))))
theorem laws_FnExactInCircle.mono_l : ∀ k, (∀ y0 y1 y2, LeO (laws_FnExactInCircle.j0 k y0 y1 y2) (laws_FnExactInCircle.j0 (k + 1) y0 y1 y2))
 | 0 => fun _ _ _ r h => by simp [laws_FnExactInCircle.j0] at h
 | k + 1 => by
  have ih0 := laws_FnExactInCircle.mono_l k
  ·intro y0 y1 y2
   unfold laws_FnExactInCircle.j0
   repeat' first
   | (with_reducible exact ih0 _ _ _)
   | (with_reducible exact impl_InCircle.mono _ _ _ _)
   | (with_reducible exact laws_eqPegS.mono _ _ _)
   | (with_reducible exact laws_toPegS.mono _ _)
   | (with_reducible exact spec_InCircle.mono _ _ _ _)
   | (with_reducible exact LeO.refl _)
   | (with_reducible exact LeO.none _)
   | (with_reducible refine LeO.ite ?_ ?_)
   | (with_reducible refine LeO.bind ?_ (fun _ => ?_))
   | exact ih0 _ _ _
   | exact impl_InCircle.mono _ _ _ _
   | exact laws_eqPegS.mono _ _ _
   | exact laws_toPegS.mono _ _
   | exact spec_InCircle.mono _ _ _ _
   | exact LeO.none _
   | refine LeO.ite ?_ ?_
   | refine LeO.bind ?_ (fun _ => ?_)
theorem laws_FnExactInCircle.mono : ∀ a0 a1 a2 k, LeO (laws_FnExactInCircle.f k a0 a1 a2) (laws_FnExactInCircle.f (k + 1) a0 a1 a2) := by
 intro a0 a1 a2 k
 have ih0 := laws_FnExactInCircle.mono_l k
 unfold laws_FnExactInCircle.f
 repeat' first | (with_reducible exact ih0 _ _ _) | (with_reducible exact impl_InCircle.mono _ _ _ _) | (with_reducible exact laws_eqPegS.mono _ _ _) | (with_reducible exact laws_toPegS.mono _ _) | (with_reducible exact spec_InCircle.mono _ _ _ _) | (with_reducible exact LeO.refl _) | (with_reducible exact LeO.none _) | (with_reducible refine LeO.ite ?_ ?_) | (with_reducible refine LeO.bind ?_ (fun _ => ?_)) | exact ih0 _ _ _ | exact impl_InCircle.mono _ _ _ _ | exact laws_eqPegS.mono _ _ _ | exact laws_toPegS.mono _ _ | exact spec_InCircle.mono _ _ _ _ | exact LeO.none _ | refine LeO.ite ?_ ?_ | refine LeO.bind ?_ (fun _ => ?_)
def laws_FnExactInCircle.T5 : Bool × List (List Nat × List Nat) := (true, [([], []), ([0], [0]), ([], []), ([2, 1], [2]), ([1, 3, 3], [1, 3]), ([4], [4]), ([5], [5]), ([5], [5]), ([6, 4, 0, 1, 2, 3, 4, 5, 6], [6]), ([7, 8, 0, 1, 2, 3, 4, 5, 6, 7, 8], [7])])
def laws_FnExactInCircle.B5 : List Nat := [0, 1, 0, 7, 15, 31, 63, 63, 127, 511]
theorem laws_FnExactInCircle.tab5 : rtab .any (opsOf Try.f14 5) = laws_FnExactInCircle.T5 := by kernel_rfl
theorem laws_FnExactInCircle.bits5 : waitsOk laws_FnExactInCircle.T5.2 laws_FnExactInCircle.B5 = true := by kernel_rfl
set_option maxHeartbeats 8000000 in
set_option maxRecDepth 100000 in
theorem laws_FnExactInCircle.calls (k : Nat) (A0 : Option Addr) (c0 : Nat) (l0 : List (S_laws_Peg)) (a1_0 : Int) (a1_1 : Int) (r : Bool) (w : World) (hr0 : Kd.C kd_laws_Peg w A0 l0.length l0) (hc0 : l0.length ≤ c0) (h : laws_FnExactInCircle.f k l0 a1_0 a1_1 = some r) :
  Calls Try.prog 14 #[.slice A0 l0.length c0, .agg #[.int .i64 a1_0, .int .i64 a1_1]] w fun e w' => e = .returned (.bool r) ∧ Below w.heap.size w w' := by
 have hu46 := Try.underlying46; have HR0 := aM hr0; have HC0 := aM hc0; clear hr0 hc0; have HB := aM (Below.refl w.heap.size w)
 unfold laws_FnExactInCircle.f at h; have H := h; clear h
 replace H := bS H; obtain ⟨t389, A3, H⟩ := H
 by_cases c4 : t389 < 0
 ·rw [if_pos c4] at H; have c4b0 := dE c4; clear c4; obtain rfl := Option.some.inj H
  go_enter Try.func14, Try.ntmps14
  go_wp2_with (first | ((with_reducible refine gate_dst (N := 3) rfl ?_); refine bV 3 (cs := #[.int .i64 a1_0, .int .i64 a1_1]) (t := 46) rfl rfl (by first | (go_simp; done) | (go_simp; rfl)) ?_; intro gb388 hg w5 hbox hb; have BK388 := hbox; have GW388 := gZ HB hg; have GE388 := gZ HB hg; replace HB := tB HB hb; clear hb hbox hg) | ((with_reducible refine gC (f := 15) rfl ?_); refine goesL_ (some 13) rfl rfl Try.func15 kR rfl #[.slice A0 l0.length c0, .int .i64 1048576] rfl sQ ?_; (with_reducible refine (laws_szPegS.calls _ _ l0 1048576 t389 _ ?side1 ?side2 A3.out).mono ?_); (case side1 => repeat (first | exact (Kd.C_below HR0.out HB.out) | (with_reducible refine cA ?_ _) | (with_reducible refine cN ?_ _) | (with_reducible refine cD ?_))); (case side2 => exact HC0.out); rintro e w' ⟨rfl, ⟨nd, rfl⟩⟩; refine ⟨_, rfl, ?_⟩))
  go_ret
  exact ⟨wQ, bE⟩
 ·rw [if_neg c4] at H; have c4b0 := decide_eq_false c4; clear c4; replace H := bS H; obtain ⟨t390, A6, H⟩ := H; replace H := bS H; obtain ⟨⟨t393, t394⟩, A7, H⟩ := H; replace H := bS H; obtain ⟨⟨t395, t396⟩, A8, H⟩ := H; replace H := bS H; obtain ⟨t397, A9, H⟩ := H; replace H := bS H; obtain ⟨⟨t400, t401⟩, A10, H⟩ := H; replace H := bS H; obtain ⟨⟨t402, t403⟩, A11, H⟩ := H; have HC12 := aM H; clear H
  go_enter Try.func14, Try.ntmps14
  try go_wp2_with (first | ((with_reducible refine gate_dst (N := 3) rfl ?_); refine bV 3 (cs := #[.int .i64 a1_0, .int .i64 a1_1]) (t := 46) rfl rfl (by first | (go_simp; done) | (go_simp; rfl)) ?_; intro gb388 hg w13 hbox hb; have BK388 := hbox; have GW388 := gZ HB hg; have GE388 := gZ HB hg; replace HB := tB HB hb; clear hb hbox hg) | ((with_reducible refine gC (f := 15) rfl ?_); refine goesL_ (some 13) rfl rfl Try.func15 kR rfl #[.slice A0 l0.length c0, .int .i64 1048576] rfl sQ ?_; (with_reducible refine (laws_szPegS.calls _ _ l0 1048576 t389 _ ?side1 ?side2 A3.out).mono ?_); (case side1 => repeat (first | exact (Kd.C_below HR0.out HB.out) | (with_reducible refine cA ?_ _) | (with_reducible refine cN ?_ _) | (with_reducible refine cD ?_))); (case side2 => exact HC0.out); rintro e w' ⟨rfl, ⟨nd, rfl⟩⟩; refine ⟨_, rfl, ?_⟩))
  (try (rw [drewN_self w13]; generalize hq_ : World.drewN w13 _ = w13; have n0_ : Aside0 (w13.heap[gb388]? = some (.cells #[.int .i64 a1_0, .int .i64 a1_1] 46 (0, 0))) := ⟨by rw [← hq_]; exact (gQ BK388)⟩; have n1_ : Aside0 (Below w.heap.size w w13) := ⟨by rw [← hq_]; exact bE⟩; clear BK388 HB hq_; have BK388 := n0_; have HB := n1_; clear n0_ n1_))
  replace BK388 := aM (kD BK388.out); replace HB := aM (pD HB.out)
  refine start_ (n := 10) (S := fun w' => w'.cell? ⟨gb388, 0, none⟩ = some (.int .i64 a1_0) ∧ w'.cell? ⟨gb388, 1, none⟩ = some (.int .i64 a1_1)) (ds := []) (bA 10 0) kR rfl kR ⟨vZ0 BK388, vZ1 BK388⟩ (fun hHeld => ?_); refine with_tabW laws_FnExactInCircle.tab5 laws_FnExactInCircle.bits5 (fun HT_ HW_ => ?_)
  generalize w13.drew = w14 at BK388 HB hHeld ⊢
  refine pU 0 17 (bA 10 1) HT_ ?_
  refine tU 2 19 (bA 10 5) HT_ HW_ hHeld ?_ (hy := Or.inl ⟨by rfl, by rintro w' ⟨s0, s1⟩; go_simp; with_reducible rfl⟩)
  refine oU 1 18 (bA 10 7) HT_ (fun K hK => ?_)
  refine goes_ Try.func17 kR rfl #[.slice A0 l0.length c0] (by rfl) rfl rfl sQ ?_
  with_reducible refine (laws_toPegS.calls k _ _ l0 t390 _ ?side1 ?side2 A6.out).mono ?_
  (case side1 => repeat (first | exact (Kd.C_below HR0.out HB.out) | (with_reducible refine cA ?_ _) | (with_reducible refine cN ?_ _) | (with_reducible refine cD ?_)))
  (case side2 => exact HC0.out)
  rintro e w15 ⟨v391, rfl, ho0, hb⟩; refine ⟨_, rfl, ?_⟩; have HO392 := aM (Kd.R_lower ho0 (pZ bE)); replace BK388 := bB BK388 hb; replace HB := tB HB hb; (try clear hb); (try clear hb2); (try clear hk); (try clear hi); (try clear ho0)
  refine hK.out _ _ ⟨vZ0 BK388, vZ1 BK388⟩ (fun hHeld => ?_)
  clear hK K
  refine nU ?_
  refine oU 3 20 (bA 10 15) HT_ (fun K hK => ?_)
  refine goes_ Try.func33 kR rfl #[.agg #[.int .i64 a1_0, .int .i64 a1_1]] (by rfl) rfl rfl sQ ?_
  with_reducible refine (laws_toPeg.calls a1_0 a1_1 t393 t394 _ A7.out).mono ?_
  rintro e w16 ⟨rfl, hb⟩; refine ⟨_, rfl, ?_⟩; replace HO392 := aM (Kd.R_below (by (with_reducible repeat (first | apply rA | apply rN | apply rD)); exact HO392.out) hb); replace BK388 := bB BK388 hb; replace HB := tB HB hb
  (try clear hb); (try clear hb2); (try clear hk); (try clear hi); obtain ⟨Ao17, co17, eo17⟩ := Kd.R_slice HO392.out
  (first | subst eo17 | (injection eo17 with f1_ f2_ f3_; have f4_ := f1_.symm; have f5_ := f3_.symm; clear f1_ f2_ f3_; subst f4_; subst f5_))
  refine hK.out _ _ ⟨vZ0 BK388, vZ1 BK388⟩ (fun hHeld => ?_)
  clear hK K
  refine nU ?_
  refine oU 4 21 (bA 10 31) HT_ (fun K hK => ?_)
  refine goes_ Try.func51 kR rfl #[.slice Ao17 t390.length co17, .agg #[.int .i64 t393, .int .i64 t394]] (by rfl) rfl rfl sQ ?_
  with_reducible refine (spec_InCircle.calls k _ _ t390 t393 t394 t395 t396 _ ?side1 ?side2 A8.out).mono ?_
  (case side1 => repeat (first | exact (rR HO392.out).2.2 | (with_reducible refine cA ?_ _) | (with_reducible refine cN ?_ _) | (with_reducible refine cD ?_)))
  (case side2 => exact (rR HO392.out).2.1)
  rintro e w18 ⟨rfl, hb⟩; refine ⟨_, rfl, ?_⟩; replace HO392 := aM (Kd.R_below (by (with_reducible repeat (first | apply rA | apply rN | apply rD)); exact HO392.out) hb); replace BK388 := bB BK388 hb; replace HB := tB HB hb
  (try clear hb); (try clear hb2); (try clear hk); (try clear hi)
  refine hK.out _ _ ⟨vZ0 BK388, vZ1 BK388⟩ (fun hHeld => ?_)
  clear hK K
  refine nU ?_
  refine pU 5 16 (bA 10 63) HT_ ?_; refine pU 6 22 (bA 10 127) HT_ ?_; refine pU 7 23 (bA 10 255) HT_ ?_; refine pU 8 6 (bA 10 511) HT_ ?_; refine pU 9 7 (bA 10 1023) HT_ ?_
  refine done_ (done_of HT_.out kR) ?_
  go_upto_region 8 with (first | ((with_reducible refine gC (f := 17) rfl ?_); refine goesL_ (some 25) rfl rfl Try.func17 kR rfl #[.slice A0 l0.length c0] rfl sQ ?_; (with_reducible refine (laws_toPegS.calls k _ _ l0 t397 _ ?side1 ?side2 A9.out).mono ?_); (case side1 => repeat (first | exact (Kd.C_below HR0.out HB.out) | (with_reducible refine cA ?_ _) | (with_reducible refine cN ?_ _) | (with_reducible refine cD ?_))); (case side2 => exact HC0.out); rintro e w19 ⟨v398, rfl, ho0, hb⟩; refine ⟨_, rfl, ?_⟩; have HO399 := aM (Kd.R_lower (Kd.R_new' ho0 (Kd.R_lt (by (with_reducible repeat (first | apply rA | apply rN | apply rD)); exact HO392.out))) (pZ bE)); replace HO392 := aM (Kd.R_elder' (by (with_reducible repeat (first | apply rA | apply rN | apply rD)); exact HO392.out) (Kd.R_base ho0) hb); replace BK388 := bB BK388 hb; replace HB := tB HB hb; (try clear hb); (try clear hb2); (try clear hk); (try clear hi); (try clear ho0); have hcz20_0 := vZ0 BK388; have hcz20_1 := vZ1 BK388; have hfz20_0 := kF BK388.out 0; have hfz20_1 := kF BK388.out 1) | ((with_reducible refine gC (f := 33) rfl ?_); refine goesL_ (some 29) rfl rfl Try.func33 kR rfl #[.agg #[.int .i64 a1_0, .int .i64 a1_1]] rfl sQ ?_; (with_reducible refine (laws_toPeg.calls a1_0 a1_1 t400 t401 _ A10.out).mono ?_); rintro e w21 ⟨rfl, hb⟩; refine ⟨_, rfl, ?_⟩; replace HO392 := aM (Kd.R_below (by (with_reducible repeat (first | apply rA | apply rN | apply rD)); exact HO392.out) hb); replace HO399 := aM (Kd.R_below (by (with_reducible repeat (first | apply rA | apply rN | apply rD)); exact HO399.out) hb); replace BK388 := bB BK388 hb; replace HB := tB HB hb; (try clear hb); (try clear hb2); (try clear hk); (try clear hi); obtain ⟨Ao22, co22, eo22⟩ := Kd.R_slice HO399.out; subst eo22) | ((with_reducible refine gC (f := 52) rfl ?_); refine goesL_ (some 30) rfl rfl Try.func52 kR rfl #[.slice Ao22 t397.length co22, .agg #[.int .i64 t400, .int .i64 t401]] rfl sQ ?_; (with_reducible refine (impl_InCircle.calls k _ _ t397 t400 t401 t402 t403 _ ?side1 ?side2 A11.out).mono ?_); (case side1 => repeat (first | exact (rR HO399.out).2.2 | (with_reducible refine cA ?_ _) | (with_reducible refine cN ?_ _) | (with_reducible refine cD ?_))); (case side2 => exact (rR HO399.out).2.1); rintro e w23 ⟨rfl, hb⟩; refine ⟨_, rfl, ?_⟩; replace HO392 := aM (Kd.R_below (by (with_reducible repeat (first | apply rA | apply rN | apply rD)); exact HO392.out) hb); replace HO399 := aM (Kd.R_below (by (with_reducible repeat (first | apply rA | apply rN | apply rD)); exact HO399.out) hb); replace BK388 := bB BK388 hb; replace HB := tB HB hb; (try clear hb); (try clear hb2); (try clear hk); (try clear hi)))
  (try simp only [Act.put, sI, sZ, sS])
  go_cut [40] (fun v40 wc => ∃ (kq : Nat) (x40_11 : Bool), v40 = .bool x40_11 ∧ Aside0 (laws_FnExactInCircle.j0 kq l0 t397 x40_11 = some r) ∧ Aside0 (kq ≤ k) ∧ Aside0 (Kd.R kd_impl_Peg 50 wc w.heap.size (fun _ => True) (.slice Ao22 t397.length co22) t397) ∧ Aside0 (wc.heap[gb388]? = some (.cells #[.int .i64 a1_0, .int .i64 a1_1] 46 (0, 0))) ∧ Aside0 (Below w.heap.size w wc))
  case first =>
   have H := HC12.out; clear HC12
   by_cases c24 : t402 = t395
   ·rw [if_pos c24] at H; have c24b0 : (t402 == t395) = true := beq_iff_eq.mpr c24; have c24b1 : (t402 != t395) = false := bne_eq_false_iff_eq.mpr c24; clear c24
    (first | rw [c24b0] | (simp only [i64_w, i32_w]; rw [c24b0]) | skip)
    have H' := aM H; clear H; go_wp2
    go_meet
    case rel => exact ⟨_, ((t403 != t396)), eQ, H', ⟨by first | omega | exact Nat.le_refl _⟩, ⟨by (with_reducible repeat (first | apply rA | apply rN | apply rD)); exact Kd.R_mono HO399.out (fun _ hk => trivial)⟩, ⟨gQ BK388⟩, ⟨bE⟩⟩
   ·rw [if_neg c24] at H; have c24b0 : (t402 == t395) = false := beq_eq_false_iff_ne.mpr c24; have c24b1 : (t402 != t395) = true := bne_iff_ne.mpr c24
    (first | rw [c24b0] | (simp only [i64_w, i32_w]; rw [c24b0]) | skip)
    have H' := aM H; clear H; go_wp2
    go_meet
    case rel => exact ⟨_, (true), eQ, H', ⟨by first | omega | exact Nat.le_refl _⟩, ⟨by (with_reducible repeat (first | apply rA | apply rN | apply rD)); exact Kd.R_mono HO399.out (fun _ hk => trivial)⟩, ⟨gQ BK388⟩, ⟨bE⟩⟩
  case rest =>
   clear HC12; (try clear c4); (try clear c4b0); (try clear hcz20_0); (try clear hcz20_1); (try clear hfz20_0); (try clear hfz20_1); obtain ⟨kq, x40_11, rfl, HA, HJ11, HO_8, BK388, HB⟩ := hcut
   cases kq with
   | zero => exact absurd HA.out (by simp [laws_FnExactInCircle.j0])
   | succ kj11 =>
    have H := HA.out; clear HA
    simp only [laws_FnExactInCircle.j0] at H
    by_cases c25 : x40_11 = true
    ·subst c25; replace H := iT H; obtain rfl := Option.some.inj H; go_wp2
     go_ret
     exact ⟨wQ, bE⟩
    ·replace c25 := Bool.eq_false_iff.mpr c25; subst c25; replace H := iF H; replace H := bS H; obtain ⟨t404, A26, H⟩ := H; replace H := bS H; obtain ⟨t407, A27, H⟩ := H
     by_cases c28 : t407 = true
     ·subst c28; replace H := iT H; obtain rfl := Option.some.inj H
      go_wp2_with (first | ((with_reducible refine gC (f := 17) rfl ?_); refine goesL_ (some 43) rfl rfl Try.func17 kR rfl #[.slice A0 l0.length c0] rfl sQ ?_; (with_reducible refine (laws_toPegS.calls kj11 _ _ l0 t404 _ ?side1 ?side2 A26.out).mono ?_); (case side1 => repeat (first | exact (Kd.C_below HR0.out HB.out) | (with_reducible refine cA ?_ _) | (with_reducible refine cN ?_ _) | (with_reducible refine cD ?_))); (case side2 => exact HC0.out); rintro e w29 ⟨v405, rfl, ho0, hb⟩; refine ⟨_, rfl, ?_⟩; have HO406 := aM (Kd.R_lower (Kd.R_new' ho0 (Kd.R_lt (by (with_reducible repeat (first | apply rA | apply rN | apply rD)); exact HO_8.out))) (pZ bE)); replace HO_8 := aM (Kd.R_elder' (by (with_reducible repeat (first | apply rA | apply rN | apply rD)); exact HO_8.out) (Kd.R_base ho0) hb); replace BK388 := bB BK388 hb; replace HB := tB HB hb; (try clear hb); (try clear hb2); (try clear hk); (try clear hi); (try clear ho0); obtain ⟨Ao30, co30, eo30⟩ := Kd.R_slice HO406.out; subst eo30) | ((with_reducible refine gC (f := 19) rfl ?_); refine goesL_ (some 44) rfl rfl Try.func19 kR rfl #[.slice Ao22 t397.length co22, .slice Ao30 t404.length co30] rfl sQ ?_; (with_reducible refine (laws_eqPegS.calls kj11 _ _ t397 _ _ t404 true _ ?side1 ?side2 ?side3 ?side4 A27.out).mono ?_); (case side1 => repeat (first | exact (rR HO_8.out).2.2 | (with_reducible refine cA ?_ _) | (with_reducible refine cN ?_ _) | (with_reducible refine cD ?_))); (case side2 => exact (rR HO_8.out).2.1); (case side3 => repeat (first | exact (rR HO406.out).2.2 | (with_reducible refine cA ?_ _) | (with_reducible refine cN ?_ _) | (with_reducible refine cD ?_))); (case side4 => exact (rR HO406.out).2.1); rintro e w31 ⟨rfl, hb⟩; refine ⟨_, rfl, ?_⟩; replace HO_8 := aM (Kd.R_below (by (with_reducible repeat (first | apply rA | apply rN | apply rD)); exact HO_8.out) hb); replace HO406 := aM (Kd.R_below (by (with_reducible repeat (first | apply rA | apply rN | apply rD)); exact HO406.out) hb); replace BK388 := bB BK388 hb; replace HB := tB HB hb; (try clear hb); (try clear hb2); (try clear hk); (try clear hi)))
      go_ret
      exact ⟨wQ, bE⟩
     ·replace c28 := Bool.eq_false_iff.mpr c28; subst c28; replace H := iF H; obtain rfl := Option.some.inj H
      go_wp2_with (first | ((with_reducible refine gC (f := 17) rfl ?_); refine goesL_ (some 43) rfl rfl Try.func17 kR rfl #[.slice A0 l0.length c0] rfl sQ ?_; (with_reducible refine (laws_toPegS.calls kj11 _ _ l0 t404 _ ?side1 ?side2 A26.out).mono ?_); (case side1 => repeat (first | exact (Kd.C_below HR0.out HB.out) | (with_reducible refine cA ?_ _) | (with_reducible refine cN ?_ _) | (with_reducible refine cD ?_))); (case side2 => exact HC0.out); rintro e w32 ⟨v405, rfl, ho0, hb⟩; refine ⟨_, rfl, ?_⟩; have HO406 := aM (Kd.R_lower (Kd.R_new' ho0 (Kd.R_lt (by (with_reducible repeat (first | apply rA | apply rN | apply rD)); exact HO_8.out))) (pZ bE)); replace HO_8 := aM (Kd.R_elder' (by (with_reducible repeat (first | apply rA | apply rN | apply rD)); exact HO_8.out) (Kd.R_base ho0) hb); replace BK388 := bB BK388 hb; replace HB := tB HB hb; (try clear hb); (try clear hb2); (try clear hk); (try clear hi); (try clear ho0); obtain ⟨Ao33, co33, eo33⟩ := Kd.R_slice HO406.out; subst eo33) | ((with_reducible refine gC (f := 19) rfl ?_); refine goesL_ (some 44) rfl rfl Try.func19 kR rfl #[.slice Ao22 t397.length co22, .slice Ao33 t404.length co33] rfl sQ ?_; (with_reducible refine (laws_eqPegS.calls kj11 _ _ t397 _ _ t404 false _ ?side1 ?side2 ?side3 ?side4 A27.out).mono ?_); (case side1 => repeat (first | exact (rR HO_8.out).2.2 | (with_reducible refine cA ?_ _) | (with_reducible refine cN ?_ _) | (with_reducible refine cD ?_))); (case side2 => exact (rR HO_8.out).2.1); (case side3 => repeat (first | exact (rR HO406.out).2.2 | (with_reducible refine cA ?_ _) | (with_reducible refine cN ?_ _) | (with_reducible refine cD ?_))); (case side4 => exact (rR HO406.out).2.1); rintro e w34 ⟨rfl, hb⟩; refine ⟨_, rfl, ?_⟩; replace HO_8 := aM (Kd.R_below (by (with_reducible repeat (first | apply rA | apply rN | apply rD)); exact HO_8.out) hb); replace HO406 := aM (Kd.R_below (by (with_reducible repeat (first | apply rA | apply rN | apply rD)); exact HO406.out) hb); replace BK388 := bB BK388 hb; replace HB := tB HB hb; (try clear hb); (try clear hb2); (try clear hk); (try clear hi)))
      go_ret
      exact ⟨wQ, bE⟩

def laws_FnExactInCircle.Pure : Prop := ∀ (l0 : List (S_laws_Peg)) (a1_0 : Int) (a1_1 : Int), OkL (fun y : S_laws_Peg => (okInt .i64) y.f0 ∧ (okInt .i64) y.f1) l0 → (Lit.int .i64 a1_0).wf = true → (Lit.int .i64 a1_1).wf = true → ∃ k, laws_FnExactInCircle.f k l0 a1_0 a1_1 = some true

end Go.Proofs.Ytfihohongkfibaa.X
