-- thin
-- short
-- compact
import Derived.Test.YtphkphjddkjabaaXA
import Derived.Test.YtphkphjddkjabaaX0
import Derived.Test.YtphkphjddkjabaaX17
namespace Go.Proofs.Ytphkphjddkjabaa.X
open Go.RowKit Go.Proofs.Ytphkphjddkjabaa.XW Go.Proofs.YtphkphjddkjabaaW.PrintWords Go.Proofs.YtphkphjddkjabaaW.PrintLast Go.Proofs.YtphkphjddkjabaaW.PrintMore
attribute [local go_sem] max2_int min2_int max_two min_two max_three min_three max_four min_four   -- for this text's walks alone
set_option linter.unusedVariables false
set_option linter.unusedSimpArgs false

def laws_eqPegS.l0 : Nat → List (S_impl_Peg) → List (S_impl_Peg) → Int → Option (Bool)
 | 0, _, _, _ => none
 | k + 1, x0, x1, x5 => if x5 < (x0.length : Int) then (if 0 ≤ x5 then (if x5 < (x1.length : Int) then ((laws_eqPeg.f ((rd_impl_Peg x0 x5).f0) ((rd_impl_Peg x0 x5).f1) ((rd_impl_Peg x1 x5).f0) ((rd_impl_Peg x1 x5).f1)).bind fun t459 => (if t459 = true then (laws_eqPegS.l0 k x0 x1 (wrap64 (x5 + 1))) else (some false))) else (none)) else (none)) else (some true)
def laws_eqPegS.f (k : Nat) (l0 : List (S_impl_Peg)) (l1 : List (S_impl_Peg)) : Option (Bool) := if (l0.length : Int) = (l1.length : Int) then (laws_eqPegS.l0 k l0 l1 0) else (some false)
theorem laws_eqPegS.mono_l : ∀ k, (∀ y0 y1 y2, LeO (laws_eqPegS.l0 k y0 y1 y2) (laws_eqPegS.l0 (k + 1) y0 y1 y2))
 | 0 => fun _ _ _ r h => by simp [laws_eqPegS.l0] at h
 | k + 1 => by
  have ih0 := laws_eqPegS.mono_l k
  ·intro y0 y1 y2
   unfold laws_eqPegS.l0
   repeat' first
   | (with_reducible exact ih0 _ _ _)
   | (with_reducible exact LeO.refl _)
   | (with_reducible exact LeO.none _)
   | (with_reducible refine LeO.ite ?_ ?_)
   | (with_reducible refine LeO.bind ?_ (fun _ => ?_))
   | exact ih0 _ _ _
   | exact LeO.none _
   | refine LeO.ite ?_ ?_
   | refine LeO.bind ?_ (fun _ => ?_)
theorem laws_eqPegS.mono : ∀ a0 a1 k, LeO (laws_eqPegS.f k a0 a1) (laws_eqPegS.f (k + 1) a0 a1) := by
 intro a0 a1 k
 have ih0 := laws_eqPegS.mono_l k
 unfold laws_eqPegS.f
 repeat' first | (with_reducible exact ih0 _ _ _) | (with_reducible exact LeO.refl _) | (with_reducible exact LeO.none _) | (with_reducible refine LeO.ite ?_ ?_) | (with_reducible refine LeO.bind ?_ (fun _ => ?_)) | exact ih0 _ _ _ | exact LeO.none _ | refine LeO.ite ?_ ?_ | refine LeO.bind ?_ (fun _ => ?_)
def laws_eqPegS.T6 : Bool × List (List Nat × List Nat) := (true, [([], []), ([], []), ([0, 1], [0, 1]), ([2], [2]), ([], []), ([], []), ([4, 5], [4, 5]), ([6], [6]), ([3, 7], [3, 7]), ([8], [8])])
def laws_eqPegS.B6 : List Nat := [0, 0, 3, 7, 0, 0, 48, 112, 255, 511]
theorem laws_eqPegS.tab6 : rtab .any (opsOf Try.f9 6) = laws_eqPegS.T6 := by kernel_rfl
theorem laws_eqPegS.bits6 : waitsOk laws_eqPegS.T6.2 laws_eqPegS.B6 = true := by kernel_rfl
set_option maxHeartbeats 8000000 in
set_option maxRecDepth 100000 in
theorem laws_eqPegS.calls (k : Nat) (A0 : Option Addr) (c0 : Nat) (l0 : List (S_impl_Peg)) (A1 : Option Addr) (c1 : Nat) (l1 : List (S_impl_Peg)) (r : Bool) (w : World) (hr0 : Kd.C kd_impl_Peg w A0 l0.length l0) (hc0 : l0.length ≤ c0) (hr1 : Kd.C kd_impl_Peg w A1 l1.length l1) (hc1 : l1.length ≤ c1) (h : laws_eqPegS.f k l0 l1 = some r) :
  Calls Try.prog 9 #[.slice A0 l0.length c0, .slice A1 l1.length c1] w fun e w' => e = .returned (.bool r) ∧ Below w.heap.size w w' := by
 have hu38 := Try.underlying38; have HR0 := aM hr0; have HC0 := aM hc0; clear hr0 hc0; have HR1 := aM hr1; have HC1 := aM hc1; clear hr1 hc1; have HB := aM (Below.refl w.heap.size w)
 unfold laws_eqPegS.f at h; have H := h; clear h
 by_cases c3 : (l0.length : Int) = (l1.length : Int)
 ·rw [if_pos c3] at H; have c3b0 : ((l0.length : Int) == (l1.length : Int)) = true := beq_iff_eq.mpr c3; have c3b1 : ((l0.length : Int) != (l1.length : Int)) = false := bne_eq_false_iff_eq.mpr c3; have c3b2 : (l0.length == l1.length) = true := by first | simpa using c3 | (simp at c3 ⊢; omega)
  clear c3; have H' := aM H; clear H
  go_enter Try.func9, Try.ntmps9
  go_wp2
  go_loopg [5] k (fun kq v5 w' => ∃ (x5_1 : Int), v5 = .int .i64 x5_1 ∧ Aside0 (laws_eqPegS.l0 kq l0 l1 x5_1 = some r) ∧ Aside0 (kq ≤ k) ∧ Aside0 (Below w.heap.size w w'))
  case atStart => exact ⟨(0), eQ, H', ⟨Nat.le_refl _⟩, ⟨bQ⟩⟩
  case round =>
   clear H'; (try clear c1); (try clear c3); (try clear c3b0); (try clear c3b1); (try clear c3b2); obtain ⟨x5_1, rfl, HA, HK1, HB⟩ := hrel
   cases gk with
   | zero => exact absurd HA.out (by simp [laws_eqPegS.l0])
   | succ k1 =>
    have H := HA.out; clear HA
    simp only [laws_eqPegS.l0] at H
    by_cases c4 : x5_1 < (l0.length : Int)
    ·rw [if_pos c4] at H; have c4b0 := dE c4; clear c4; replace H := iD H; obtain ⟨c5b0, H⟩ := H; replace H := iD H; obtain ⟨c6b0, H⟩ := H; replace H := bS H; obtain ⟨t459, A7, H⟩ := H
     by_cases c8 : t459 = true
     ·subst c8; replace H := iT H; have H' := aM H; clear H
      try go_wp2
      replace HB := aM (pD HB.out); have p457 : 0 ≤ (x5_1 : Int) := dT aQ; have q457 : x5_1 < (l0.length : Int) := dT aQ; obtain ⟨ad457, e457, hx457_0, hx457_1⟩ := at_impl_Peg HR0.out x5_1 p457 q457; have hw457_1 := hx457_1; have hw457_0 := hx457_0
      cases e457
      replace hx457_0 := hC HB hx457_0; replace hx457_1 := hC HB hx457_1; replace p457 := eq_true p457; replace q457 := eq_true q457; have p458 : 0 ≤ (x5_1 : Int) := dT aQ; have q458 : x5_1 < (l1.length : Int) := dT aQ; obtain ⟨ad458, e458, hx458_0, hx458_1⟩ := at_impl_Peg HR1.out x5_1 p458 q458; have hw458_1 := hx458_1; have hw458_0 := hx458_0
      cases e458
      replace hx458_0 := hC HB hx458_0; replace hx458_1 := hC HB hx458_1; replace p458 := eq_true p458; replace q458 := eq_true q458
      refine start_ (n := 10) (S := fun w' => w'.cell? (ad457.add ((x5_1).toNat * 2)) = some (.int .i64 ((rd_impl_Peg l0 x5_1).f0)) ∧ w'.cell? ⟨(ad457.add ((x5_1).toNat * 2)).block, (ad457.add ((x5_1).toNat * 2)).off + 1, none⟩ = some (.int .i64 ((rd_impl_Peg l0 x5_1).f1)) ∧ w'.cell? (ad458.add ((x5_1).toNat * 2)) = some (.int .i64 ((rd_impl_Peg l1 x5_1).f0)) ∧ w'.cell? ⟨(ad458.add ((x5_1).toNat * 2)).block, (ad458.add ((x5_1).toNat * 2)).off + 1, none⟩ = some (.int .i64 ((rd_impl_Peg l1 x5_1).f1))) (ds := []) (bA 10 0) kR rfl kR ⟨(hC HB hw457_0 :), (hC HB hw457_1 :), (hC HB hw458_0 :), (hC HB hw458_1 :)⟩ (fun hHeld => ?_); refine with_tabW laws_eqPegS.tab6 laws_eqPegS.bits6 (fun HT_ HW_ => ?_)
      generalize wr.drew = w9 at HB hx457_0 hx457_1 hx458_0 hx458_1 hHeld ⊢
      refine pU 0 17 (bA 10 1) HT_ ?_; refine pU 1 18 (bA 10 3) HT_ ?_; refine pU 2 19 (bA 10 7) HT_ ?_; refine pU 4 21 (bA 10 23) HT_ ?_; refine pU 5 22 (bA 10 55) HT_ ?_; refine pU 6 23 (bA 10 119) HT_ ?_
      refine tU 3 20 (bA 10 127) HT_ HW_ hHeld ?_ (hy := Or.inl ⟨by rfl, by rintro w' ⟨s0, s1, s2, s3⟩; go_simp; with_reducible rfl⟩)
      refine tU 7 24 (bA 10 255) HT_ HW_ hHeld ?_ (hy := Or.inl ⟨by rfl, by rintro w' ⟨s0, s1, s2, s3⟩; go_simp; with_reducible rfl⟩)
      refine oU 8 25 (bA 10 511) HT_ (fun K hK => ?_)
      refine goes_ Try.func21 kR rfl #[.agg #[.int .i64 ((rd_impl_Peg l0 x5_1).f0), .int .i64 ((rd_impl_Peg l0 x5_1).f1)], .agg #[.int .i64 ((rd_impl_Peg l1 x5_1).f0), .int .i64 ((rd_impl_Peg l1 x5_1).f1)]] (by rfl) rfl rfl sQ ?_
      with_reducible refine (laws_eqPeg.calls ((rd_impl_Peg l0 x5_1).f0) ((rd_impl_Peg l0 x5_1).f1) ((rd_impl_Peg l1 x5_1).f0) ((rd_impl_Peg l1 x5_1).f1) true _ A7.out).mono ?_
      rintro e w10 ⟨rfl, hb⟩; refine ⟨_, rfl, ?_⟩; replace HB := tB HB hb; (try clear hb); (try clear hb2); (try clear hk); (try clear hi)
      refine hK.out _ _ ⟨(hC HB hw457_0 :), (hC HB hw457_1 :), (hC HB hw458_0 :), (hC HB hw458_1 :)⟩ (fun hHeld => ?_)
      clear hK K
      refine nU ?_
      refine pU 9 26 (bA 10 1023) HT_ ?_
      refine done_ (done_of HT_.out kR) ?_
      try go_wp2
      go_roundg k1
      case measure => have := HK1.out; omega
      case rel => exact ⟨(wrap64 (x5_1 + 1)), eQ, H', ⟨by have := HK1.out; omega⟩, ⟨bQ⟩⟩
     ·replace c8 := Bool.eq_false_iff.mpr c8; subst c8; replace H := iF H; obtain rfl := Option.some.inj H
      try go_wp2
      replace HB := aM (pD HB.out); have p457 : 0 ≤ (x5_1 : Int) := dT aQ; have q457 : x5_1 < (l0.length : Int) := dT aQ; obtain ⟨ad457, e457, hx457_0, hx457_1⟩ := at_impl_Peg HR0.out x5_1 p457 q457; have hw457_1 := hx457_1; have hw457_0 := hx457_0
      cases e457
      replace hx457_0 := hC HB hx457_0; replace hx457_1 := hC HB hx457_1; replace p457 := eq_true p457; replace q457 := eq_true q457; have p458 : 0 ≤ (x5_1 : Int) := dT aQ; have q458 : x5_1 < (l1.length : Int) := dT aQ; obtain ⟨ad458, e458, hx458_0, hx458_1⟩ := at_impl_Peg HR1.out x5_1 p458 q458; have hw458_1 := hx458_1; have hw458_0 := hx458_0
      cases e458
      replace hx458_0 := hC HB hx458_0; replace hx458_1 := hC HB hx458_1; replace p458 := eq_true p458; replace q458 := eq_true q458
      refine start_ (n := 10) (S := fun w' => w'.cell? (ad457.add ((x5_1).toNat * 2)) = some (.int .i64 ((rd_impl_Peg l0 x5_1).f0)) ∧ w'.cell? ⟨(ad457.add ((x5_1).toNat * 2)).block, (ad457.add ((x5_1).toNat * 2)).off + 1, none⟩ = some (.int .i64 ((rd_impl_Peg l0 x5_1).f1)) ∧ w'.cell? (ad458.add ((x5_1).toNat * 2)) = some (.int .i64 ((rd_impl_Peg l1 x5_1).f0)) ∧ w'.cell? ⟨(ad458.add ((x5_1).toNat * 2)).block, (ad458.add ((x5_1).toNat * 2)).off + 1, none⟩ = some (.int .i64 ((rd_impl_Peg l1 x5_1).f1))) (ds := []) (bA 10 0) kR rfl kR ⟨(hC HB hw457_0 :), (hC HB hw457_1 :), (hC HB hw458_0 :), (hC HB hw458_1 :)⟩ (fun hHeld => ?_); refine with_tabW laws_eqPegS.tab6 laws_eqPegS.bits6 (fun HT_ HW_ => ?_)
      generalize wr.drew = w11 at HB hx457_0 hx457_1 hx458_0 hx458_1 hHeld ⊢
      refine pU 0 17 (bA 10 1) HT_ ?_; refine pU 1 18 (bA 10 3) HT_ ?_; refine pU 2 19 (bA 10 7) HT_ ?_; refine pU 4 21 (bA 10 23) HT_ ?_; refine pU 5 22 (bA 10 55) HT_ ?_; refine pU 6 23 (bA 10 119) HT_ ?_
      refine tU 3 20 (bA 10 127) HT_ HW_ hHeld ?_ (hy := Or.inl ⟨by rfl, by rintro w' ⟨s0, s1, s2, s3⟩; go_simp; with_reducible rfl⟩)
      refine tU 7 24 (bA 10 255) HT_ HW_ hHeld ?_ (hy := Or.inl ⟨by rfl, by rintro w' ⟨s0, s1, s2, s3⟩; go_simp; with_reducible rfl⟩)
      refine oU 8 25 (bA 10 511) HT_ (fun K hK => ?_)
      refine goes_ Try.func21 kR rfl #[.agg #[.int .i64 ((rd_impl_Peg l0 x5_1).f0), .int .i64 ((rd_impl_Peg l0 x5_1).f1)], .agg #[.int .i64 ((rd_impl_Peg l1 x5_1).f0), .int .i64 ((rd_impl_Peg l1 x5_1).f1)]] (by rfl) rfl rfl sQ ?_
      with_reducible refine (laws_eqPeg.calls ((rd_impl_Peg l0 x5_1).f0) ((rd_impl_Peg l0 x5_1).f1) ((rd_impl_Peg l1 x5_1).f0) ((rd_impl_Peg l1 x5_1).f1) false _ A7.out).mono ?_
      rintro e w12 ⟨rfl, hb⟩; refine ⟨_, rfl, ?_⟩; replace HB := tB HB hb; (try clear hb); (try clear hb2); (try clear hk); (try clear hi)
      refine hK.out _ _ ⟨(hC HB hw457_0 :), (hC HB hw457_1 :), (hC HB hw458_0 :), (hC HB hw458_1 :)⟩ (fun hHeld => ?_)
      clear hK K
      refine nU ?_
      refine pU 9 26 (bA 10 1023) HT_ ?_
      refine done_ (done_of HT_.out kR) ?_
      try go_wp2
      go_ret
      exact ⟨wQ, bQ⟩
    ·rw [if_neg c4] at H; have c4b0 := decide_eq_false c4; clear c4; obtain rfl := Option.some.inj H; go_wp2
     go_ret
     exact ⟨wQ, bQ⟩
 ·rw [if_neg c3] at H; have c3b0 : ((l0.length : Int) == (l1.length : Int)) = false := beq_eq_false_iff_ne.mpr c3; have c3b1 : ((l0.length : Int) != (l1.length : Int)) = true := bne_iff_ne.mpr c3; have c3b2 : (l0.length == l1.length) = false := by first | simpa using c3 | (simp at c3 ⊢; omega)
  obtain rfl := Option.some.inj H
  go_enter Try.func9, Try.ntmps9
  go_wp2
  go_ret
  exact ⟨wQ, bQ⟩

end Go.Proofs.Ytphkphjddkjabaa.X
