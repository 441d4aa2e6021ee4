-- thin
-- short
-- compact
import Derived.Test.YtklhakfmegbobaaXA
import Derived.Test.YtklhakfmegbobaaX0
import Derived.Test.YtklhakfmegbobaaX2
import Derived.Test.YtklhakfmegbobaaX3
namespace Go.Proofs.Ytklhakfmegbobaa.X
open Go.RowKit Go.Proofs.Ytklhakfmegbobaa.XW Go.Proofs.YtklhakfmegbobaaW.PrintWords Go.Proofs.YtklhakfmegbobaaW.PrintLast Go.Proofs.YtklhakfmegbobaaW.PrintMore
attribute [local go_sem] max2_int min2_int max_two min_two max_three min_three max_four min_four   -- for this text's walks alone
set_option linter.unusedVariables false
set_option linter.unusedSimpArgs false

def laws_eqPegSS.l0 : Nat → List (List (S_impl_Peg)) → List (List (S_impl_Peg)) → Int → Option (Bool)
 | 0, _, _, _ => none
 | k + 1, x0, x1, x5 => if x5 < (x0.length : Int) then (if 0 ≤ x5 then (if x5 < (x1.length : Int) then ((laws_eqPegS.f k (rd_L3 x0 x5) (rd_L3 x1 x5)).bind fun t297 => (if t297 = true then (laws_eqPegSS.l0 k x0 x1 (wrap64 (x5 + 1))) else (some false))) else (none)) else (none)) else (some true)
def laws_eqPegSS.f (k : Nat) (l0 : List (List (S_impl_Peg))) (l1 : List (List (S_impl_Peg))) : Option (Bool) := if (l0.length : Int) = (l1.length : Int) then (laws_eqPegSS.l0 k l0 l1 0) else (some false)
theorem laws_eqPegSS.mono_l : ∀ k, (∀ y0 y1 y2, LeO (laws_eqPegSS.l0 k y0 y1 y2) (laws_eqPegSS.l0 (k + 1) y0 y1 y2))
 | 0 => fun _ _ _ r h => by simp [laws_eqPegSS.l0] at h
 | k + 1 => by
  have ih0 := laws_eqPegSS.mono_l k
  ·intro y0 y1 y2
   unfold laws_eqPegSS.l0
   repeat' first
   | (with_reducible exact ih0 _ _ _)
   | (with_reducible exact laws_eqPegS.mono _ _ _)
   | (with_reducible exact LeO.refl _)
   | (with_reducible exact LeO.none _)
   | (with_reducible refine LeO.ite ?_ ?_)
   | (with_reducible refine LeO.bind ?_ (fun _ => ?_))
   | exact ih0 _ _ _
   | exact laws_eqPegS.mono _ _ _
   | exact LeO.none _
   | refine LeO.ite ?_ ?_
   | refine LeO.bind ?_ (fun _ => ?_)
theorem laws_eqPegSS.mono : ∀ a0 a1 k, LeO (laws_eqPegSS.f k a0 a1) (laws_eqPegSS.f (k + 1) a0 a1) := by
 intro a0 a1 k
 have ih0 := laws_eqPegSS.mono_l k
 unfold laws_eqPegSS.f
 repeat' first | (with_reducible exact ih0 _ _ _) | (with_reducible exact laws_eqPegS.mono _ _ _) | (with_reducible exact LeO.refl _) | (with_reducible exact LeO.none _) | (with_reducible refine LeO.ite ?_ ?_) | (with_reducible refine LeO.bind ?_ (fun _ => ?_)) | exact ih0 _ _ _ | exact laws_eqPegS.mono _ _ _ | exact LeO.none _ | refine LeO.ite ?_ ?_ | refine LeO.bind ?_ (fun _ => ?_)
def laws_eqPegSS.T6 : Bool × List (List Nat × List Nat) := (true, [([], []), ([], []), ([0, 1], [0, 1]), ([2], [2]), ([], []), ([], []), ([4, 5], [4, 5]), ([6], [6]), ([3, 7], [3, 7]), ([8], [8])])
def laws_eqPegSS.B6 : List Nat := [0, 0, 3, 7, 0, 0, 48, 112, 255, 511]
theorem laws_eqPegSS.tab6 : rtab .any (opsOf Try.f47 6) = laws_eqPegSS.T6 := by kernel_rfl
theorem laws_eqPegSS.bits6 : waitsOk laws_eqPegSS.T6.2 laws_eqPegSS.B6 = true := by kernel_rfl
set_option maxHeartbeats 8000000 in
set_option maxRecDepth 100000 in
theorem laws_eqPegSS.calls (k : Nat) (A0 : Option Addr) (c0 : Nat) (l0 : List (List (S_impl_Peg))) (A1 : Option Addr) (c1 : Nat) (l1 : List (List (S_impl_Peg))) (r : Bool) (w : World) (hr0 : Kd.C (Kd.slice 26 kd_impl_Peg) w A0 l0.length l0) (hc0 : l0.length ≤ c0) (hr1 : Kd.C (Kd.slice 26 kd_impl_Peg) w A1 l1.length l1) (hc1 : l1.length ≤ c1) (h : laws_eqPegSS.f k l0 l1 = some r) :
  Calls Try.prog 47 #[.slice A0 l0.length c0, .slice A1 l1.length c1] w fun e w' => e = .returned (.bool r) ∧ Below w.heap.size w w' := by
 have HR0 := aM hr0; have HC0 := aM hc0; clear hr0 hc0; have HR1 := aM hr1; have HC1 := aM hc1; clear hr1 hc1; have HB := aM (Below.refl w.heap.size w)
 unfold laws_eqPegSS.f at h; have H := h; clear h
 by_cases c3 : (l0.length : Int) = (l1.length : Int)
 ·rw [if_pos c3] at H; have c3b0 : ((l0.length : Int) == (l1.length : Int)) = true := beq_iff_eq.mpr c3; have c3b1 : ((l0.length : Int) != (l1.length : Int)) = false := bne_eq_false_iff_eq.mpr c3; have c3b2 : (l0.length == l1.length) = true := by first | simpa using c3 | (simp at c3 ⊢; omega)
  clear c3; have H' := aM H; clear H
  go_enter Try.func47, Try.ntmps47
  go_wp2
  go_loopg [5] k (fun kq v5 w' => ∃ (x5_1 : Int), v5 = .int .i64 x5_1 ∧ Aside0 (laws_eqPegSS.l0 kq l0 l1 x5_1 = some r) ∧ Aside0 (kq ≤ k) ∧ Aside0 (Below w.heap.size w w'))
  case atStart => exact ⟨(0), eQ, H', ⟨Nat.le_refl _⟩, ⟨bQ⟩⟩
  case round =>
   clear H'; (try clear c1); (try clear c3); (try clear c3b0); (try clear c3b1); (try clear c3b2); obtain ⟨x5_1, rfl, HA, HK1, HB⟩ := hrel
   cases gk with
   | zero => exact absurd HA.out (by simp [laws_eqPegSS.l0])
   | succ k1 =>
    have H := HA.out; clear HA
    simp only [laws_eqPegSS.l0] at H
    by_cases c4 : x5_1 < (l0.length : Int)
    ·rw [if_pos c4] at H; have c4b0 := dE c4; clear c4; replace H := iD H; obtain ⟨c5b0, H⟩ := H; replace H := iD H; obtain ⟨c6b0, H⟩ := H; replace H := bS H; obtain ⟨t297, A7, H⟩ := H
     by_cases c8 : t297 = true
     ·subst c8; replace H := iT H; have H' := aM H; clear H
      try go_wp2
      replace HB := aM (pD HB.out); have p295 : 0 ≤ (x5_1 : Int) := dT aQ; have q295 : x5_1 < (l0.length : Int) := dT aQ; obtain ⟨ad295, A295_0, c295_0, e295, hx295_0, hl295_0, hi295_0⟩ := at_L3 HR0.out x5_1 p295 q295; have hw295_0 := hx295_0
      cases e295
      replace hx295_0 := hC HB hx295_0; have HR295_0 := aM hi295_0; have HC295_0 := aM hl295_0; clear hi295_0 hl295_0; replace p295 := eq_true p295; replace q295 := eq_true q295; have p296 : 0 ≤ (x5_1 : Int) := dT aQ; have q296 : x5_1 < (l1.length : Int) := dT aQ; obtain ⟨ad296, A296_0, c296_0, e296, hx296_0, hl296_0, hi296_0⟩ := at_L3 HR1.out x5_1 p296 q296; have hw296_0 := hx296_0
      cases e296
      replace hx296_0 := hC HB hx296_0; have HR296_0 := aM hi296_0; have HC296_0 := aM hl296_0; clear hi296_0 hl296_0; replace p296 := eq_true p296; replace q296 := eq_true q296
      refine start_ (n := 10) (S := fun w' => w'.cell? (ad295.add (x5_1).toNat) = some (.slice A295_0 (rd_L3 l0 x5_1).length c295_0) ∧ w'.cell? (ad296.add (x5_1).toNat) = some (.slice A296_0 (rd_L3 l1 x5_1).length c296_0)) (ds := []) (bA 10 0) kR rfl kR ⟨(hC HB hw295_0 :), (hC HB hw296_0 :)⟩ (fun hHeld => ?_); refine with_tabW laws_eqPegSS.tab6 laws_eqPegSS.bits6 (fun HT_ HW_ => ?_)
      generalize wr.drew = w9 at HB HR295_0 HR296_0 hx295_0 hx296_0 hHeld ⊢
      refine pU 0 17 (bA 10 1) HT_ ?_; refine pU 1 18 (bA 10 3) HT_ ?_; refine pU 2 19 (bA 10 7) HT_ ?_; refine pU 4 21 (bA 10 23) HT_ ?_; refine pU 5 22 (bA 10 55) HT_ ?_; refine pU 6 23 (bA 10 119) HT_ ?_
      refine tU 3 20 (bA 10 127) HT_ HW_ hHeld ?_ (hy := Or.inl ⟨by rfl, by rintro w' ⟨s0, s1⟩; go_simp; with_reducible rfl⟩)
      refine tU 7 24 (bA 10 255) HT_ HW_ hHeld ?_ (hy := Or.inl ⟨by rfl, by rintro w' ⟨s0, s1⟩; go_simp; with_reducible rfl⟩)
      refine oU 8 25 (bA 10 511) HT_ (fun K hK => ?_)
      refine goes_ Try.func21 kR rfl #[.slice A295_0 (rd_L3 l0 x5_1).length c295_0, .slice A296_0 (rd_L3 l1 x5_1).length c296_0] (by rfl) rfl rfl sQ ?_
      with_reducible refine (laws_eqPegS.calls k1 _ _ (rd_L3 l0 x5_1) _ _ (rd_L3 l1 x5_1) true _ ?side1 ?side2 ?side3 ?side4 A7.out).mono ?_
      (case side1 => repeat (first | exact (Kd.C_below HR295_0.out HB.out) | (with_reducible refine cA ?_ _) | (with_reducible refine cN ?_ _) | (with_reducible refine cD ?_)))
      (case side2 => exact HC295_0.out)
      (case side3 => repeat (first | exact (Kd.C_below HR296_0.out HB.out) | (with_reducible refine cA ?_ _) | (with_reducible refine cN ?_ _) | (with_reducible refine cD ?_)))
      (case side4 => exact HC296_0.out)
      rintro e w10 ⟨rfl, hb⟩; refine ⟨_, rfl, ?_⟩; replace HB := tB HB hb; (try clear hb); (try clear hb2); (try clear hk); (try clear hi)
      refine hK.out _ _ ⟨(hC HB hw295_0 :), (hC HB hw296_0 :)⟩ (fun hHeld => ?_)
      clear hK K
      refine nU ?_
      refine pU 9 26 (bA 10 1023) HT_ ?_
      refine done_ (done_of HT_.out kR) ?_
      try go_wp2
      go_roundg k1
      case measure => have := HK1.out; omega
      case rel => exact ⟨(wrap64 (x5_1 + 1)), eQ, H', ⟨by have := HK1.out; omega⟩, ⟨bQ⟩⟩
     ·replace c8 := Bool.eq_false_iff.mpr c8; subst c8; replace H := iF H; obtain rfl := Option.some.inj H
      try go_wp2
      replace HB := aM (pD HB.out); have p295 : 0 ≤ (x5_1 : Int) := dT aQ; have q295 : x5_1 < (l0.length : Int) := dT aQ; obtain ⟨ad295, A295_0, c295_0, e295, hx295_0, hl295_0, hi295_0⟩ := at_L3 HR0.out x5_1 p295 q295; have hw295_0 := hx295_0
      cases e295
      replace hx295_0 := hC HB hx295_0; have HR295_0 := aM hi295_0; have HC295_0 := aM hl295_0; clear hi295_0 hl295_0; replace p295 := eq_true p295; replace q295 := eq_true q295; have p296 : 0 ≤ (x5_1 : Int) := dT aQ; have q296 : x5_1 < (l1.length : Int) := dT aQ; obtain ⟨ad296, A296_0, c296_0, e296, hx296_0, hl296_0, hi296_0⟩ := at_L3 HR1.out x5_1 p296 q296; have hw296_0 := hx296_0
      cases e296
      replace hx296_0 := hC HB hx296_0; have HR296_0 := aM hi296_0; have HC296_0 := aM hl296_0; clear hi296_0 hl296_0; replace p296 := eq_true p296; replace q296 := eq_true q296
      refine start_ (n := 10) (S := fun w' => w'.cell? (ad295.add (x5_1).toNat) = some (.slice A295_0 (rd_L3 l0 x5_1).length c295_0) ∧ w'.cell? (ad296.add (x5_1).toNat) = some (.slice A296_0 (rd_L3 l1 x5_1).length c296_0)) (ds := []) (bA 10 0) kR rfl kR ⟨(hC HB hw295_0 :), (hC HB hw296_0 :)⟩ (fun hHeld => ?_); refine with_tabW laws_eqPegSS.tab6 laws_eqPegSS.bits6 (fun HT_ HW_ => ?_)
      generalize wr.drew = w11 at HB HR295_0 HR296_0 hx295_0 hx296_0 hHeld ⊢
      refine pU 0 17 (bA 10 1) HT_ ?_; refine pU 1 18 (bA 10 3) HT_ ?_; refine pU 2 19 (bA 10 7) HT_ ?_; refine pU 4 21 (bA 10 23) HT_ ?_; refine pU 5 22 (bA 10 55) HT_ ?_; refine pU 6 23 (bA 10 119) HT_ ?_
      refine tU 3 20 (bA 10 127) HT_ HW_ hHeld ?_ (hy := Or.inl ⟨by rfl, by rintro w' ⟨s0, s1⟩; go_simp; with_reducible rfl⟩)
      refine tU 7 24 (bA 10 255) HT_ HW_ hHeld ?_ (hy := Or.inl ⟨by rfl, by rintro w' ⟨s0, s1⟩; go_simp; with_reducible rfl⟩)
      refine oU 8 25 (bA 10 511) HT_ (fun K hK => ?_)
      refine goes_ Try.func21 kR rfl #[.slice A295_0 (rd_L3 l0 x5_1).length c295_0, .slice A296_0 (rd_L3 l1 x5_1).length c296_0] (by rfl) rfl rfl sQ ?_
      with_reducible refine (laws_eqPegS.calls k1 _ _ (rd_L3 l0 x5_1) _ _ (rd_L3 l1 x5_1) false _ ?side1 ?side2 ?side3 ?side4 A7.out).mono ?_
      (case side1 => repeat (first | exact (Kd.C_below HR295_0.out HB.out) | (with_reducible refine cA ?_ _) | (with_reducible refine cN ?_ _) | (with_reducible refine cD ?_)))
      (case side2 => exact HC295_0.out)
      (case side3 => repeat (first | exact (Kd.C_below HR296_0.out HB.out) | (with_reducible refine cA ?_ _) | (with_reducible refine cN ?_ _) | (with_reducible refine cD ?_)))
      (case side4 => exact HC296_0.out)
      rintro e w12 ⟨rfl, hb⟩; refine ⟨_, rfl, ?_⟩; replace HB := tB HB hb; (try clear hb); (try clear hb2); (try clear hk); (try clear hi)
      refine hK.out _ _ ⟨(hC HB hw295_0 :), (hC HB hw296_0 :)⟩ (fun hHeld => ?_)
      clear hK K
      refine nU ?_
      refine pU 9 26 (bA 10 1023) HT_ ?_
      refine done_ (done_of HT_.out kR) ?_
      try go_wp2
      go_ret
      exact ⟨wQ, bQ⟩
    ·rw [if_neg c4] at H; have c4b0 := decide_eq_false c4; clear c4; obtain rfl := Option.some.inj H; go_wp2
     go_ret
     exact ⟨wQ, bQ⟩
 ·rw [if_neg c3] at H; have c3b0 : ((l0.length : Int) == (l1.length : Int)) = false := beq_eq_false_iff_ne.mpr c3; have c3b1 : ((l0.length : Int) != (l1.length : Int)) = true := bne_iff_ne.mpr c3; have c3b2 : (l0.length == l1.length) = false := by first | simpa using c3 | (simp at c3 ⊢; omega)
  obtain rfl := Option.some.inj H
  go_enter Try.func47, Try.ntmps47
  go_wp2
  go_ret
  exact ⟨wQ, bQ⟩

-- EXT loop.example/g01259/laws.markPegSS rounds=1 making=0 needs=loop.example/g01259/laws.markPegS
def laws_markPegSS.l0 : Nat → List (List S_impl_Peg) → Int → Int → Option (Int × List (List S_impl_Peg))
 | 0, _, _, _ => none
 | k + 1, x0, x1, x5 => if x5 < (x0.length : Int) then (if 0 ≤ x5 then ((laws_markPegS.f k (x0.getD x5.toNat []) x1).bind fun bt => (laws_markPegSS.l0 k (x0.set (x5 : Int).toNat bt.2) bt.1 (wrap64 (x5 + 1)))) else (none)) else (some (x1, x0))
def laws_markPegSS.f (k : Nat) (l0 : List (List S_impl_Peg)) (a1 : Int) : Option (Int × List (List S_impl_Peg)) := laws_markPegSS.l0 k l0 a1 0
theorem laws_markPegSS.mono_l : ∀ k, (∀ y0 y1 y2, LeO (laws_markPegSS.l0 k y0 y1 y2) (laws_markPegSS.l0 (k + 1) y0 y1 y2))
 | 0 => fun _ _ _ r h => by simp [laws_markPegSS.l0] at h
 | k + 1 => by
  have ih0 := laws_markPegSS.mono_l k
  ·intro y0 y1 y2
   unfold laws_markPegSS.l0
   repeat' first
   | (with_reducible exact ih0 _ _ _)
   | (with_reducible exact laws_markPegS.mono _ _ _)
   | (with_reducible exact LeO.refl _)
   | (with_reducible exact LeO.none _)
   | (with_reducible refine LeO.ite ?_ ?_)
   | (with_reducible refine LeO.bind ?_ (fun _ => ?_))
theorem laws_markPegSS.mono : ∀ a0 a1 k, LeO (laws_markPegSS.f k a0 a1) (laws_markPegSS.f (k + 1) a0 a1) := by
 intro a0 a1 k
 have ih0 := laws_markPegSS.mono_l k
 unfold laws_markPegSS.f
 exact ih0 _ _ _
set_option maxHeartbeats 8000000 in
set_option maxRecDepth 100000 in
theorem laws_markPegSS.calls (k : Nat) (P0_ : Nat → Prop) (u9000_ : Value) (l0 : List (List S_impl_Peg)) (a1 : Int) (r1 : Int) (r2 : List (List S_impl_Peg)) (w0 w : World) (hB : Below w0.heap.size w0 w) (ho0 : Kd.S (Kd.slice 26 kd_impl_Peg) 29 w w0.heap.size P0_ u9000_ l0) (h : laws_markPegSS.f k l0 a1 = some (r1, r2)) :
  Calls Try.prog 48 #[u9000_, .int .i64 a1] w fun e w' => e = .returned (.int .i64 r1) ∧ Kd.S (Kd.slice 26 kd_impl_Peg) 29 w' w0.heap.size (fun k_ => (P0_ k_ ∨ w.heap.size ≤ k_)) u9000_ r2 ∧ Below w0.heap.size w0 w' ∧ Kept w w' (fun k_ => P0_ k_) := by
 have HO0 := aM (show Kd.S (Kd.slice 26 kd_impl_Peg) 29 w w0.heap.size (fun k_ => (P0_ k_ ∨ w.heap.size ≤ k_)) u9000_ l0 from Kd.S_mono ho0 (fun k_ hk => (.inl hk))); have HK := aM (Kept.refl w (fun k_ => P0_ k_)); have HW0 := aM hB.size; have HB := aM hB; have HF := aM ho0; clear hB ho0
 unfold laws_markPegSS.f at h; have H := h; clear h
 have H' := aM H; clear H; obtain ⟨Au, cu, eu⟩ := Kd.S_slice HO0.out; subst eu
 go_enter Try.func48, Try.ntmps48
 go_wp2
 go_loopg [1, 5] k (fun kq v1 v5 w' => ∃ (x0_1 : List (List S_impl_Peg)) (x1_1 : Int) (x5_1 : Int), v1 = .int .i64 x1_1 ∧ v5 = .int .i64 x5_1 ∧ Aside0 (laws_markPegSS.l0 kq x0_1 x1_1 x5_1 = some (r1, r2)) ∧ Aside0 (kq ≤ k) ∧ Aside0 (Kd.S (Kd.slice 26 kd_impl_Peg) 29 w' w0.heap.size (fun k_ => (P0_ k_ ∨ w.heap.size ≤ k_)) (.slice Au l0.length cu) x0_1) ∧ Aside0 (Kept w w' (fun k_ => P0_ k_)) ∧ Aside0 (Below w0.heap.size w0 w'))
 case atStart => exact ⟨l0, a1, 0, eQ, eQ, H', ⟨Nat.le_refl _⟩, ⟨by (with_reducible repeat (first | apply Kd.S_alloc | apply Kd.S_drewN | apply Kd.S_drew)); exact HO0.out⟩, ⟨by repeat (first | (with_reducible first | exact HK.out | apply Kept.alloc | apply Kept.drewN | apply Kept.drew) | exact HK.out)⟩, ⟨by repeat (first | (with_reducible first | exact HB.out | apply pw_below_alloc | apply pN | apply below_drew) | exact HB.out)⟩⟩
 case round =>
  clear H'; obtain ⟨x0_1, x1_1, x5_1, rfl, rfl, HA, HK1, HO_0, HK, HB⟩ := hrel; have hlen : l0.length = x0_1.length := (Kd.S_reads' HO_0.out).1; rw [hlen] at HO_0 ⊢
  cases gk with
  | zero => exact absurd HA.out (by simp [laws_markPegSS.l0])
  | succ k1 =>
   have H := HA.out; clear HA
   simp only [laws_markPegSS.l0] at H
   by_cases c3 : x5_1 < (x0_1.length : Int)
   ·rw [if_pos c3] at H; have c3b0 := dE c3; replace H := iN H; obtain ⟨c4, H⟩ := H; have c4b0 := dE c4; obtain ⟨bt, A5, H⟩ := oB.mp H; have H' := aM H; clear H; obtain ⟨yr, hyr⟩ : ∃ y_ : List S_impl_Peg, y_ = x0_1.getD x5_1.toNat [] := ⟨_, rfl⟩; obtain ⟨g, cg, eg, gb, gl, cl, HG⟩ := Kd.S_form HO_0.out (by omega)
    injection eg with eg1 eg2 eg3
    subst eg1 eg3; clear eg2 gb gl HG cl; obtain ⟨oki, cc, hcl, hM, hcc, hoki, hH⟩ := Kd.S_lend HO_0.out ([] : List S_impl_Peg) x5_1 c4 c3; rw [← hyr] at A5 hM; clear hyr; obtain ⟨vr, rfl, hR⟩ := hM; obtain ⟨A1, c1, e1⟩ := Kd.R_slice hR; subst e1; have hx := hcc 0 _ rfl; rw [show x5_1.toNat * (Kd.slice 26 kd_impl_Peg).sz + 0 = x5_1.toNat from Nat.mul_one _] at hx; clear hcc hcl; have HH := aM hH; have HR := aM (show Kd.R kd_impl_Peg 26 wr w0.heap.size oki (.slice A1 yr.length c1) yr from hR); have HI := aM hoki; have A5 := aM A5; clear hR hH hoki; have p109 := eq_true c4; have q109 := eq_true c3; clear c3 c4
    go_wp2_with (first | ((with_reducible refine gC (f := 25) rfl ?_); refine goesL_ (some 17) rfl rfl Try.func25 kR rfl #[.slice A1 yr.length c1, .int .i64 x1_1] rfl sQ ?_; (with_reducible refine (laws_markPegS.calls k1 oki _ yr x1_1 bt.1 bt.2 w0 _ ?side1 ?side2 A5.out).mono ?_); (case side1 => repeat (first | (with_reducible first | exact HB.out | apply pw_below_alloc | apply pN | apply below_drew) | exact HB.out)); (case side2 => (with_reducible repeat (first | apply rA | apply rN | apply rD)); exact HR.out); rintro e w2 ⟨rfl, hr2, hb2, hk2⟩; refine ⟨_, rfl, ?_⟩; have hM2 : (Kd.slice 26 kd_impl_Peg).M w2 w0.heap.size (fun k_ => oki k_ ∨ wr.heap.size ≤ k_) bt.2 [.slice A1 yr.length c1] := Exists.intro _ (And.intro rfl hr2); have HS2 := aM (Kd.H_back (okp := fun k_ => oki k_ ∨ wr.heap.size ≤ k_) (Kd.H_step (Kd.H_widen (by (with_reducible repeat (first | apply Kd.H_alloc | apply Kd.H_drewN | apply Kd.H_drew)); exact HH.out)) (fun k_ hk hn hlt => hk2.2 k_ hlt (fun ho => hn (.inl ho)))) hM2 (fun k_ (hk : oki k_ ∨ wr.heap.size ≤ k_) => Or.elim hk Or.inl (fun h_ => Or.inr ⟨Or.inr (Nat.le_trans HK.out.1 h_), h_⟩))); replace HK := aM (Kept.then_ HK.out hk2 (fun k_ hk => (HI.out k_ hk).1)); replace HB := aM hb2; clear hM2 hr2 hb2 hk2))
    rw [← hlen]
    go_roundg k1
    case measure => have := HK1.out; omega
    case rel => exact ⟨_, bt.1, (wrap64 (x5_1 + 1)), eQ, eQ, H', ⟨by have := HK1.out; omega⟩, ⟨by (with_reducible repeat (first | apply Kd.S_alloc | apply Kd.S_drewN | apply Kd.S_drew)); rw [hlen]; exact HS2.out⟩, ⟨by repeat (first | (with_reducible first | exact HK.out | apply Kept.alloc | apply Kept.drewN | apply Kept.drew) | exact HK.out)⟩, ⟨by repeat (first | (with_reducible first | exact HB.out | apply pw_below_alloc | apply pN | apply below_drew) | exact HB.out)⟩⟩
   ·rw [if_neg c3] at H; have c3b0 := decide_eq_false c3; clear c3
    simp only [Option.some.injEq, Prod.mk.injEq] at H
    obtain ⟨rfl, rfl⟩ := H; go_wp2
    go_ret
    exact ⟨eQ, by (with_reducible repeat (first | apply Kd.S_alloc | apply Kd.S_drewN | apply Kd.S_drew)); rw [hlen]; exact HO_0.out, by repeat (first | (with_reducible first | exact HB.out | apply pw_below_alloc | apply pN | apply below_drew) | exact HB.out), by repeat (first | (with_reducible first | exact HK.out | apply Kept.alloc | apply Kept.drewN | apply Kept.drew) | exact HK.out)⟩

def laws_heldPegS.l0 : Nat → List (S_impl_Peg) → Int → Int → Option (Int)
 | 0, _, _, _ => none
 | k + 1, x0, x1, x5 => if x5 < (x0.length : Int) then (if 0 ≤ x5 then (if ((rd_impl_Peg x0 x5).f0) = x1 then (if ((rd_impl_Peg x0 x5).f1) = (wrap64 (x1 + 1)) then (laws_heldPegS.l0 k x0 (wrap64 ((wrap64 (x1 + 1)) + 1)) (wrap64 (x5 + 1))) else (some (-1))) else (some (-1))) else (none)) else (some x1)
def laws_heldPegS.f (k : Nat) (l0 : List (S_impl_Peg)) (a1 : Int) : Option (Int) := laws_heldPegS.l0 k l0 a1 0
theorem laws_heldPegS.mono_l : ∀ k, (∀ y0 y1 y2, LeO (laws_heldPegS.l0 k y0 y1 y2) (laws_heldPegS.l0 (k + 1) y0 y1 y2))
 | 0 => fun _ _ _ r h => by simp [laws_heldPegS.l0] at h
 | k + 1 => by
  have ih0 := laws_heldPegS.mono_l k
  ·intro y0 y1 y2
   unfold laws_heldPegS.l0
   repeat' first
   | (with_reducible exact ih0 _ _ _)
   | (with_reducible exact LeO.refl _)
   | (with_reducible exact LeO.none _)
   | (with_reducible refine LeO.ite ?_ ?_)
   | (with_reducible refine LeO.bind ?_ (fun _ => ?_))
   | exact ih0 _ _ _
   | exact LeO.none _
   | refine LeO.ite ?_ ?_
   | refine LeO.bind ?_ (fun _ => ?_)
theorem laws_heldPegS.mono : ∀ a0 a1 k, LeO (laws_heldPegS.f k a0 a1) (laws_heldPegS.f (k + 1) a0 a1) := by
 intro a0 a1 k
 have ih0 := laws_heldPegS.mono_l k
 unfold laws_heldPegS.f
 repeat' first | (with_reducible exact ih0 _ _ _) | (with_reducible exact LeO.refl _) | (with_reducible exact LeO.none _) | (with_reducible refine LeO.ite ?_ ?_) | (with_reducible refine LeO.bind ?_ (fun _ => ?_)) | exact ih0 _ _ _ | exact LeO.none _ | refine LeO.ite ?_ ?_ | refine LeO.bind ?_ (fun _ => ?_)
set_option maxHeartbeats 8000000 in
set_option maxRecDepth 100000 in
theorem laws_heldPegS.calls (k : Nat) (A0 : Option Addr) (c0 : Nat) (l0 : List (S_impl_Peg)) (a1 : Int) (r : Int) (w : World) (hr0 : Kd.C kd_impl_Peg w A0 l0.length l0) (hc0 : l0.length ≤ c0) (h : laws_heldPegS.f k l0 a1 = some r) :
  Calls Try.prog 26 #[.slice A0 l0.length c0, .int .i64 a1] w fun e w' => e = .returned (.int .i64 r) ∧ Drawn0 w w' := by
 have HR0 := aM hr0; have HC0 := aM hc0; clear hr0 hc0
 unfold laws_heldPegS.f at h; have H := h; clear h
 have H' := aM H; clear H
 go_enter Try.func26, Try.ntmps26
 go_wp2
 go_loopg [1, 5] k (fun kq v1 v5 w' => ∃ (x1_1 : Int) (x5_1 : Int), v1 = .int .i64 x1_1 ∧ v5 = .int .i64 x5_1 ∧ Aside0 (laws_heldPegS.l0 kq l0 x1_1 x5_1 = some r) ∧ Aside0 (kq ≤ k) ∧ Drawn0 w w')
 case atStart => exact ⟨(a1), (0), eQ, eQ, H', ⟨Nat.le_refl _⟩, dQ⟩
 case round =>
  clear H'; obtain ⟨x1_1, x5_1, rfl, rfl, HA, HK1, ⟨m1, rfl⟩⟩ := hrel
  cases gk with
  | zero => exact absurd HA.out (by simp [laws_heldPegS.l0])
  | succ k1 =>
   have H := HA.out; clear HA
   simp only [laws_heldPegS.l0] at H
   by_cases c3 : x5_1 < (l0.length : Int)
   ·rw [if_pos c3] at H; have c3b0 := dE c3; clear c3; replace H := iD H; obtain ⟨c4b0, H⟩ := H
    by_cases c5 : ((rd_impl_Peg l0 x5_1).f0) = x1_1
    ·rw [if_pos c5] at H; have c5b0 : (((rd_impl_Peg l0 x5_1).f0) == x1_1) = true := beq_iff_eq.mpr c5; have c5b1 : (((rd_impl_Peg l0 x5_1).f0) != x1_1) = false := bne_eq_false_iff_eq.mpr c5; clear c5
     by_cases c6 : ((rd_impl_Peg l0 x5_1).f1) = (wrap64 (x1_1 + 1))
     ·rw [if_pos c6] at H; have c6b0 : (((rd_impl_Peg l0 x5_1).f1) == (wrap64 (x1_1 + 1))) = true := beq_iff_eq.mpr c6; have c6b1 : (((rd_impl_Peg l0 x5_1).f1) != (wrap64 (x1_1 + 1))) = false := bne_eq_false_iff_eq.mpr c6; clear c6; have H' := aM H; clear H; have p298 : 0 ≤ (x5_1 : Int) := dT aQ; have q298 : x5_1 < (l0.length : Int) := dT aQ; obtain ⟨ad298, e298, hx298_0, hx298_1⟩ := at_impl_Peg HR0.out x5_1 p298 q298
      cases e298
      replace p298 := eq_true p298; replace q298 := eq_true q298; have p299 : 0 ≤ (x5_1 : Int) := dT aQ; have q299 : x5_1 < (l0.length : Int) := dT aQ; obtain ⟨ad299, e299, hx299_0, hx299_1⟩ := at_impl_Peg HR0.out x5_1 p299 q299; obtain rfl : ad298 = ad299 := (by injection e299)
      replace p299 := eq_true p299; replace q299 := eq_true q299; go_wp2
      go_roundg k1
      case measure => have := HK1.out; omega
      case rel => exact ⟨(wrap64 ((wrap64 (x1_1 + 1)) + 1)), (wrap64 (x5_1 + 1)), eQ, eQ, H', ⟨by have := HK1.out; omega⟩, dQ⟩
     ·rw [if_neg c6] at H; have c6b0 : (((rd_impl_Peg l0 x5_1).f1) == (wrap64 (x1_1 + 1))) = false := beq_eq_false_iff_ne.mpr c6; have c6b1 : (((rd_impl_Peg l0 x5_1).f1) != (wrap64 (x1_1 + 1))) = true := bne_iff_ne.mpr c6; obtain rfl := Option.some.inj H; have p298 : 0 ≤ (x5_1 : Int) := dT aQ; have q298 : x5_1 < (l0.length : Int) := dT aQ; obtain ⟨ad298, e298, hx298_0, hx298_1⟩ := at_impl_Peg HR0.out x5_1 p298 q298
      cases e298
      replace p298 := eq_true p298; replace q298 := eq_true q298; have p299 : 0 ≤ (x5_1 : Int) := dT aQ; have q299 : x5_1 < (l0.length : Int) := dT aQ; obtain ⟨ad299, e299, hx299_0, hx299_1⟩ := at_impl_Peg HR0.out x5_1 p299 q299; obtain rfl : ad298 = ad299 := (by injection e299)
      replace p299 := eq_true p299; replace q299 := eq_true q299; go_wp2
      go_ret
      exact ⟨eQ, dQ⟩
    ·rw [if_neg c5] at H; have c5b0 : (((rd_impl_Peg l0 x5_1).f0) == x1_1) = false := beq_eq_false_iff_ne.mpr c5; have c5b1 : (((rd_impl_Peg l0 x5_1).f0) != x1_1) = true := bne_iff_ne.mpr c5; obtain rfl := Option.some.inj H; have p298 : 0 ≤ (x5_1 : Int) := dT aQ; have q298 : x5_1 < (l0.length : Int) := dT aQ; obtain ⟨ad298, e298, hx298_0, hx298_1⟩ := at_impl_Peg HR0.out x5_1 p298 q298
     cases e298
     replace p298 := eq_true p298; replace q298 := eq_true q298; go_wp2
     go_ret
     exact ⟨eQ, dQ⟩
   ·rw [if_neg c3] at H; have c3b0 := decide_eq_false c3; clear c3; obtain rfl := Option.some.inj H; go_wp2
    go_ret
    exact ⟨eQ, dQ⟩

end Go.Proofs.Ytklhakfmegbobaa.X
