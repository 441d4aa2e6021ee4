-- thin
-- short
-- compact
import Derived.Test.YtoeclfihlhmnpaaXA
import Derived.Test.YtoeclfihlhmnpaaX0
import Derived.Test.YtoeclfihlhmnpaaX20
namespace Go.Proofs.Ytoeclfihlhmnpaa.X
open Go.RowKit Go.Proofs.Ytoeclfihlhmnpaa.XW Go.Proofs.YtoeclfihlhmnpaaW.PrintWords Go.Proofs.YtoeclfihlhmnpaaW.PrintLast Go.Proofs.YtoeclfihlhmnpaaW.PrintMore
attribute [local go_sem] max2_int min2_int max_two min_two max_three min_three max_four min_four   -- for this text's walks alone
set_option linter.unusedVariables false
set_option linter.unusedSimpArgs false

def laws_eqPegS.l0 : Nat → List (S_impl_Peg) → List (S_impl_Peg) → Int → Option (Bool)
 | 0, _, _, _ => none
 | k + 1, x0, x1, x5 => if x5 < (x0.length : Int) then (if 0 ≤ x5 then (if x5 < (x1.length : Int) then ((laws_eqPeg.f ((rd_impl_Peg x0 x5).f0) ((rd_impl_Peg x0 x5).f1) ((rd_impl_Peg x1 x5).f0) ((rd_impl_Peg x1 x5).f1)).bind fun t479 => (if t479 = true then (laws_eqPegS.l0 k x0 x1 (wrap64 (x5 + 1))) else (some false))) else (none)) else (none)) else (some true)
def laws_eqPegS.f (k : Nat) (l0 : List (S_impl_Peg)) (l1 : List (S_impl_Peg)) : Option (Bool) := if (l0.length : Int) = (l1.length : Int) then (laws_eqPegS.l0 k l0 l1 0) else (some false)
theorem laws_eqPegS.mono_l : ∀ k, (∀ y0 y1 y2, LeO (laws_eqPegS.l0 k y0 y1 y2) (laws_eqPegS.l0 (k + 1) y0 y1 y2))
 | 0 => fun _ _ _ r h => by simp [laws_eqPegS.l0] at h
 | k + 1 => by
  have ih0 := laws_eqPegS.mono_l k
  ·intro y0 y1 y2
   unfold laws_eqPegS.l0
   repeat' first
   | (with_reducible exact ih0 _ _ _)
   | (with_reducible exact LeO.refl _)
   | (with_reducible exact LeO.none _)
   | (with_reducible refine LeO.ite ?_ ?_)
   | (with_reducible refine LeO.bind ?_ (fun _ => ?_))
   | exact ih0 _ _ _
   | exact LeO.none _
   | refine LeO.ite ?_ ?_
   | refine LeO.bind ?_ (fun _ => ?_)
theorem laws_eqPegS.mono : ∀ a0 a1 k, LeO (laws_eqPegS.f k a0 a1) (laws_eqPegS.f (k + 1) a0 a1) := by
 intro a0 a1 k
 have ih0 := laws_eqPegS.mono_l k
 unfold laws_eqPegS.f
 repeat' first | (with_reducible exact ih0 _ _ _) | (with_reducible exact LeO.refl _) | (with_reducible exact LeO.none _) | (with_reducible refine LeO.ite ?_ ?_) | (with_reducible refine LeO.bind ?_ (fun _ => ?_)) | exact ih0 _ _ _ | exact LeO.none _ | refine LeO.ite ?_ ?_ | refine LeO.bind ?_ (fun _ => ?_)
def laws_eqPegS.T6 : Bool × List (List Nat × List Nat) := (true, [([], []), ([], []), ([0, 1], [0, 1]), ([2], [2]), ([], []), ([], []), ([4, 5], [4, 5]), ([6], [6]), ([3, 7], [3, 7]), ([8], [8])])
def laws_eqPegS.B6 : List Nat := [0, 0, 3, 7, 0, 0, 48, 112, 255, 511]
theorem laws_eqPegS.tab6 : rtab .any (opsOf Try.f9 6) = laws_eqPegS.T6 := by kernel_rfl
theorem laws_eqPegS.bits6 : waitsOk laws_eqPegS.T6.2 laws_eqPegS.B6 = true := by kernel_rfl
set_option maxHeartbeats 8000000 in
set_option maxRecDepth 100000 in
theorem laws_eqPegS.calls (k : Nat) (A0 : Option Addr) (c0 : Nat) (l0 : List (S_impl_Peg)) (A1 : Option Addr) (c1 : Nat) (l1 : List (S_impl_Peg)) (r : Bool) (w : World) (hr0 : Kd.C kd_impl_Peg w A0 l0.length l0) (hc0 : l0.length ≤ c0) (hr1 : Kd.C kd_impl_Peg w A1 l1.length l1) (hc1 : l1.length ≤ c1) (h : laws_eqPegS.f k l0 l1 = some r) :
  Calls Try.prog 9 #[.slice A0 l0.length c0, .slice A1 l1.length c1] w fun e w' => e = .returned (.bool r) ∧ Below w.heap.size w w' := by
 have hu41 := Try.underlying41; have HR0 := aM hr0; have HC0 := aM hc0; clear hr0 hc0; have HR1 := aM hr1; have HC1 := aM hc1; clear hr1 hc1; have HB := aM (Below.refl w.heap.size w)
 unfold laws_eqPegS.f at h; have H := h; clear h
 by_cases c3 : (l0.length : Int) = (l1.length : Int)
 ·rw [if_pos c3] at H; have c3b0 : ((l0.length : Int) == (l1.length : Int)) = true := beq_iff_eq.mpr c3; have c3b1 : ((l0.length : Int) != (l1.length : Int)) = false := bne_eq_false_iff_eq.mpr c3; have c3b2 : (l0.length == l1.length) = true := by first | simpa using c3 | (simp at c3 ⊢; omega)
  clear c3; have H' := aM H; clear H
  go_enter Try.func9, Try.ntmps9
  go_wp2
  go_loopg [5] k (fun kq v5 w' => ∃ (x5_1 : Int), v5 = .int .i64 x5_1 ∧ Aside0 (laws_eqPegS.l0 kq l0 l1 x5_1 = some r) ∧ Aside0 (kq ≤ k) ∧ Aside0 (Below w.heap.size w w'))
  case atStart => exact ⟨(0), eQ, H', ⟨Nat.le_refl _⟩, ⟨bQ⟩⟩
  case round =>
   clear H'; (try clear c1); (try clear c3); (try clear c3b0); (try clear c3b1); (try clear c3b2); obtain ⟨x5_1, rfl, HA, HK1, HB⟩ := hrel
   cases gk with
   | zero => exact absurd HA.out (by simp [laws_eqPegS.l0])
   | succ k1 =>
    have H := HA.out; clear HA
    simp only [laws_eqPegS.l0] at H
    by_cases c4 : x5_1 < (l0.length : Int)
    ·rw [if_pos c4] at H; have c4b0 := dE c4; clear c4; replace H := iD H; obtain ⟨c5b0, H⟩ := H; replace H := iD H; obtain ⟨c6b0, H⟩ := H; replace H := bS H; obtain ⟨t479, A7, H⟩ := H
     by_cases c8 : t479 = true
     ·subst c8; replace H := iT H; have H' := aM H; clear H
      try go_wp2
      replace HB := aM (pD HB.out); have p477 : 0 ≤ (x5_1 : Int) := dT aQ; have q477 : x5_1 < (l0.length : Int) := dT aQ; obtain ⟨ad477, e477, hx477_0, hx477_1⟩ := at_impl_Peg HR0.out x5_1 p477 q477; have hw477_1 := hx477_1; have hw477_0 := hx477_0
      cases e477
      replace hx477_0 := hC HB hx477_0; replace hx477_1 := hC HB hx477_1; replace p477 := eq_true p477; replace q477 := eq_true q477; have p478 : 0 ≤ (x5_1 : Int) := dT aQ; have q478 : x5_1 < (l1.length : Int) := dT aQ; obtain ⟨ad478, e478, hx478_0, hx478_1⟩ := at_impl_Peg HR1.out x5_1 p478 q478; have hw478_1 := hx478_1; have hw478_0 := hx478_0
      cases e478
      replace hx478_0 := hC HB hx478_0; replace hx478_1 := hC HB hx478_1; replace p478 := eq_true p478; replace q478 := eq_true q478
      refine start_ (n := 10) (S := fun w' => w'.cell? (ad477.add ((x5_1).toNat * 2)) = some (.int .i64 ((rd_impl_Peg l0 x5_1).f0)) ∧ w'.cell? ⟨(ad477.add ((x5_1).toNat * 2)).block, (ad477.add ((x5_1).toNat * 2)).off + 1, none⟩ = some (.int .i64 ((rd_impl_Peg l0 x5_1).f1)) ∧ w'.cell? (ad478.add ((x5_1).toNat * 2)) = some (.int .i64 ((rd_impl_Peg l1 x5_1).f0)) ∧ w'.cell? ⟨(ad478.add ((x5_1).toNat * 2)).block, (ad478.add ((x5_1).toNat * 2)).off + 1, none⟩ = some (.int .i64 ((rd_impl_Peg l1 x5_1).f1))) (ds := []) (bA 10 0) kR rfl kR ⟨(hC HB hw477_0 :), (hC HB hw477_1 :), (hC HB hw478_0 :), (hC HB hw478_1 :)⟩ (fun hHeld => ?_); refine with_tabW laws_eqPegS.tab6 laws_eqPegS.bits6 (fun HT_ HW_ => ?_)
      generalize wr.drew = w9 at HB hx477_0 hx477_1 hx478_0 hx478_1 hHeld ⊢
      refine pU 0 17 (bA 10 1) HT_ ?_; refine pU 1 18 (bA 10 3) HT_ ?_; refine pU 2 19 (bA 10 7) HT_ ?_; refine pU 4 21 (bA 10 23) HT_ ?_; refine pU 5 22 (bA 10 55) HT_ ?_; refine pU 6 23 (bA 10 119) HT_ ?_
      refine tU 3 20 (bA 10 127) HT_ HW_ hHeld ?_ (hy := Or.inl ⟨by rfl, by rintro w' ⟨s0, s1, s2, s3⟩; go_simp; with_reducible rfl⟩)
      refine tU 7 24 (bA 10 255) HT_ HW_ hHeld ?_ (hy := Or.inl ⟨by rfl, by rintro w' ⟨s0, s1, s2, s3⟩; go_simp; with_reducible rfl⟩)
      refine oU 8 25 (bA 10 511) HT_ (fun K hK => ?_)
      refine goes_ Try.func46 kR rfl #[.agg #[.int .i64 ((rd_impl_Peg l0 x5_1).f0), .int .i64 ((rd_impl_Peg l0 x5_1).f1)], .agg #[.int .i64 ((rd_impl_Peg l1 x5_1).f0), .int .i64 ((rd_impl_Peg l1 x5_1).f1)]] (by rfl) rfl rfl sQ ?_
      with_reducible refine (laws_eqPeg.calls ((rd_impl_Peg l0 x5_1).f0) ((rd_impl_Peg l0 x5_1).f1) ((rd_impl_Peg l1 x5_1).f0) ((rd_impl_Peg l1 x5_1).f1) true _ A7.out).mono ?_
      rintro e w10 ⟨rfl, hb⟩; refine ⟨_, rfl, ?_⟩; replace HB := tB HB hb; (try clear hb); (try clear hb2); (try clear hk); (try clear hi)
      refine hK.out _ _ ⟨(hC HB hw477_0 :), (hC HB hw477_1 :), (hC HB hw478_0 :), (hC HB hw478_1 :)⟩ (fun hHeld => ?_)
      clear hK K
      refine nU ?_
      refine pU 9 26 (bA 10 1023) HT_ ?_
      refine done_ (done_of HT_.out kR) ?_
      try go_wp2
      go_roundg k1
      case measure => have := HK1.out; omega
      case rel => exact ⟨(wrap64 (x5_1 + 1)), eQ, H', ⟨by have := HK1.out; omega⟩, ⟨bQ⟩⟩
     ·replace c8 := Bool.eq_false_iff.mpr c8; subst c8; replace H := iF H; obtain rfl := Option.some.inj H
      try go_wp2
      replace HB := aM (pD HB.out); have p477 : 0 ≤ (x5_1 : Int) := dT aQ; have q477 : x5_1 < (l0.length : Int) := dT aQ; obtain ⟨ad477, e477, hx477_0, hx477_1⟩ := at_impl_Peg HR0.out x5_1 p477 q477; have hw477_1 := hx477_1; have hw477_0 := hx477_0
      cases e477
      replace hx477_0 := hC HB hx477_0; replace hx477_1 := hC HB hx477_1; replace p477 := eq_true p477; replace q477 := eq_true q477; have p478 : 0 ≤ (x5_1 : Int) := dT aQ; have q478 : x5_1 < (l1.length : Int) := dT aQ; obtain ⟨ad478, e478, hx478_0, hx478_1⟩ := at_impl_Peg HR1.out x5_1 p478 q478; have hw478_1 := hx478_1; have hw478_0 := hx478_0
      cases e478
      replace hx478_0 := hC HB hx478_0; replace hx478_1 := hC HB hx478_1; replace p478 := eq_true p478; replace q478 := eq_true q478
      refine start_ (n := 10) (S := fun w' => w'.cell? (ad477.add ((x5_1).toNat * 2)) = some (.int .i64 ((rd_impl_Peg l0 x5_1).f0)) ∧ w'.cell? ⟨(ad477.add ((x5_1).toNat * 2)).block, (ad477.add ((x5_1).toNat * 2)).off + 1, none⟩ = some (.int .i64 ((rd_impl_Peg l0 x5_1).f1)) ∧ w'.cell? (ad478.add ((x5_1).toNat * 2)) = some (.int .i64 ((rd_impl_Peg l1 x5_1).f0)) ∧ w'.cell? ⟨(ad478.add ((x5_1).toNat * 2)).block, (ad478.add ((x5_1).toNat * 2)).off + 1, none⟩ = some (.int .i64 ((rd_impl_Peg l1 x5_1).f1))) (ds := []) (bA 10 0) kR rfl kR ⟨(hC HB hw477_0 :), (hC HB hw477_1 :), (hC HB hw478_0 :), (hC HB hw478_1 :)⟩ (fun hHeld => ?_); refine with_tabW laws_eqPegS.tab6 laws_eqPegS.bits6 (fun HT_ HW_ => ?_)
      generalize wr.drew = w11 at HB hx477_0 hx477_1 hx478_0 hx478_1 hHeld ⊢
      refine pU 0 17 (bA 10 1) HT_ ?_; refine pU 1 18 (bA 10 3) HT_ ?_; refine pU 2 19 (bA 10 7) HT_ ?_; refine pU 4 21 (bA 10 23) HT_ ?_; refine pU 5 22 (bA 10 55) HT_ ?_; refine pU 6 23 (bA 10 119) HT_ ?_
      refine tU 3 20 (bA 10 127) HT_ HW_ hHeld ?_ (hy := Or.inl ⟨by rfl, by rintro w' ⟨s0, s1, s2, s3⟩; go_simp; with_reducible rfl⟩)
      refine tU 7 24 (bA 10 255) HT_ HW_ hHeld ?_ (hy := Or.inl ⟨by rfl, by rintro w' ⟨s0, s1, s2, s3⟩; go_simp; with_reducible rfl⟩)
      refine oU 8 25 (bA 10 511) HT_ (fun K hK => ?_)
      refine goes_ Try.func46 kR rfl #[.agg #[.int .i64 ((rd_impl_Peg l0 x5_1).f0), .int .i64 ((rd_impl_Peg l0 x5_1).f1)], .agg #[.int .i64 ((rd_impl_Peg l1 x5_1).f0), .int .i64 ((rd_impl_Peg l1 x5_1).f1)]] (by rfl) rfl rfl sQ ?_
      with_reducible refine (laws_eqPeg.calls ((rd_impl_Peg l0 x5_1).f0) ((rd_impl_Peg l0 x5_1).f1) ((rd_impl_Peg l1 x5_1).f0) ((rd_impl_Peg l1 x5_1).f1) false _ A7.out).mono ?_
      rintro e w12 ⟨rfl, hb⟩; refine ⟨_, rfl, ?_⟩; replace HB := tB HB hb; (try clear hb); (try clear hb2); (try clear hk); (try clear hi)
      refine hK.out _ _ ⟨(hC HB hw477_0 :), (hC HB hw477_1 :), (hC HB hw478_0 :), (hC HB hw478_1 :)⟩ (fun hHeld => ?_)
      clear hK K
      refine nU ?_
      refine pU 9 26 (bA 10 1023) HT_ ?_
      refine done_ (done_of HT_.out kR) ?_
      try go_wp2
      go_ret
      exact ⟨wQ, bQ⟩
    ·rw [if_neg c4] at H; have c4b0 := decide_eq_false c4; clear c4; obtain rfl := Option.some.inj H; go_wp2
     go_ret
     exact ⟨wQ, bQ⟩
 ·rw [if_neg c3] at H; have c3b0 : ((l0.length : Int) == (l1.length : Int)) = false := beq_eq_false_iff_ne.mpr c3; have c3b1 : ((l0.length : Int) != (l1.length : Int)) = true := bne_iff_ne.mpr c3; have c3b2 : (l0.length == l1.length) = false := by first | simpa using c3 | (simp at c3 ⊢; omega)
  obtain rfl := Option.some.inj H
  go_enter Try.func9, Try.ntmps9
  go_wp2
  go_ret
  exact ⟨wQ, bQ⟩

def laws_eqClue.f (a0_0 : Int) (a0_1 : Int) (a0_2 : Int) (a0_3 : Int) (a1_0 : Int) (a1_1 : Int) (a1_2 : Int) (a1_3 : Int) : Option (Bool) := if a0_0 = a1_0 then (if a0_1 = a1_1 then (if a0_2 = a1_2 then (if a0_3 = a1_3 then (some true) else (some false)) else (some false)) else (some false)) else (some false)
set_option maxHeartbeats 8000000 in
set_option maxRecDepth 100000 in
theorem laws_eqClue.calls (a0_0 : Int) (a0_1 : Int) (a0_2 : Int) (a0_3 : Int) (a1_0 : Int) (a1_1 : Int) (a1_2 : Int) (a1_3 : Int) (r : Bool) (w : World) (h : laws_eqClue.f a0_0 a0_1 a0_2 a0_3 a1_0 a1_1 a1_2 a1_3 = some r) :
  Calls Try.prog 86 #[.agg #[.int .i64 a0_0, .int .i64 a0_1, .int .i64 a0_2, .int .i64 a0_3], .agg #[.int .i64 a1_0, .int .i64 a1_1, .int .i64 a1_2, .int .i64 a1_3]] w fun e w' => e = .returned (.bool r) ∧ Below w.heap.size w w' := by
 have hu48 := Try.underlying48; have HB := aM (Below.refl w.heap.size w)
 unfold laws_eqClue.f at h; have H := h; clear h
 by_cases c3 : a0_0 = a1_0
 ·rw [if_pos c3] at H; have c3b0 : (a0_0 == a1_0) = true := beq_iff_eq.mpr c3; have c3b1 : (a0_0 != a1_0) = false := bne_eq_false_iff_eq.mpr c3; clear c3
  by_cases c4 : a0_1 = a1_1
  ·rw [if_pos c4] at H; have c4b0 : (a0_1 == a1_1) = true := beq_iff_eq.mpr c4; have c4b1 : (a0_1 != a1_1) = false := bne_eq_false_iff_eq.mpr c4; clear c4
   by_cases c5 : a0_2 = a1_2
   ·rw [if_pos c5] at H; have c5b0 : (a0_2 == a1_2) = true := beq_iff_eq.mpr c5; have c5b1 : (a0_2 != a1_2) = false := bne_eq_false_iff_eq.mpr c5; clear c5
    by_cases c6 : a0_3 = a1_3
    ·rw [if_pos c6] at H; have c6b0 : (a0_3 == a1_3) = true := beq_iff_eq.mpr c6; have c6b1 : (a0_3 != a1_3) = false := bne_eq_false_iff_eq.mpr c6; clear c6; obtain rfl := Option.some.inj H
     go_enter Try.func86, Try.ntmps86
     go_wp2_with (first | ((with_reducible refine gate_dst (N := 2) rfl ?_); refine bV 2 (cs := #[.int .i64 a0_0, .int .i64 a0_1, .int .i64 a0_2, .int .i64 a0_3]) (t := 48) rfl rfl (by first | (go_simp; done) | (go_simp; rfl)) ?_; intro gb480 hg w7 hbox hb; have BK480 := hbox; have GW480 := gZ HB hg; have GE480 := gZ HB hg; replace HB := tB HB hb; clear hb hbox hg) | ((with_reducible refine gate_dst (N := 3) rfl ?_); refine bV 3 (cs := #[.int .i64 a1_0, .int .i64 a1_1, .int .i64 a1_2, .int .i64 a1_3]) (t := 48) rfl rfl (by first | (go_simp; done) | (go_simp; rfl)) ?_; intro gb481 hg w8 hbox hb; have BK481 := hbox; have GW481 := gZ HB hg; have GE481 := gZ HB hg; have NB480_481 := nG BK480 hg; have NB481_480 := nH BK480 hg; replace BK480 := bB BK480 hb; replace HB := tB HB hb; clear hb hbox hg; have hnb9 := NB480_481.out; have hnc9 := NB481_480.out; have hcz10_0 := vZ0 BK480; have hcz10_1 := vZ1 BK480; have hcz10_2 := vZ2 BK480; have hcz10_3 := vZ3 BK480; have hfz10_0 := kF BK480.out 0; have hfz10_1 := kF BK480.out 1; have hfz10_2 := kF BK480.out 2; have hfz10_3 := kF BK480.out 3; have hcz11_0 := vZ0 BK481; have hcz11_1 := vZ1 BK481; have hcz11_2 := vZ2 BK481; have hcz11_3 := vZ3 BK481; have hfz11_0 := kF BK481.out 0; have hfz11_1 := kF BK481.out 1; have hfz11_2 := kF BK481.out 2; have hfz11_3 := kF BK481.out 3))
     go_ret
     exact ⟨wQ, bE⟩
    ·rw [if_neg c6] at H; have c6b0 : (a0_3 == a1_3) = false := beq_eq_false_iff_ne.mpr c6; have c6b1 : (a0_3 != a1_3) = true := bne_iff_ne.mpr c6; obtain rfl := Option.some.inj H
     go_enter Try.func86, Try.ntmps86
     go_wp2_with (first | ((with_reducible refine gate_dst (N := 2) rfl ?_); refine bV 2 (cs := #[.int .i64 a0_0, .int .i64 a0_1, .int .i64 a0_2, .int .i64 a0_3]) (t := 48) rfl rfl (by first | (go_simp; done) | (go_simp; rfl)) ?_; intro gb480 hg w12 hbox hb; have BK480 := hbox; have GW480 := gZ HB hg; have GE480 := gZ HB hg; replace HB := tB HB hb; clear hb hbox hg) | ((with_reducible refine gate_dst (N := 3) rfl ?_); refine bV 3 (cs := #[.int .i64 a1_0, .int .i64 a1_1, .int .i64 a1_2, .int .i64 a1_3]) (t := 48) rfl rfl (by first | (go_simp; done) | (go_simp; rfl)) ?_; intro gb481 hg w13 hbox hb; have BK481 := hbox; have GW481 := gZ HB hg; have GE481 := gZ HB hg; have NB480_481 := nG BK480 hg; have NB481_480 := nH BK480 hg; replace BK480 := bB BK480 hb; replace HB := tB HB hb; clear hb hbox hg; have hnb14 := NB480_481.out; have hnc14 := NB481_480.out; have hcz15_0 := vZ0 BK480; have hcz15_1 := vZ1 BK480; have hcz15_2 := vZ2 BK480; have hcz15_3 := vZ3 BK480; have hfz15_0 := kF BK480.out 0; have hfz15_1 := kF BK480.out 1; have hfz15_2 := kF BK480.out 2; have hfz15_3 := kF BK480.out 3; have hcz16_0 := vZ0 BK481; have hcz16_1 := vZ1 BK481; have hcz16_2 := vZ2 BK481; have hcz16_3 := vZ3 BK481; have hfz16_0 := kF BK481.out 0; have hfz16_1 := kF BK481.out 1; have hfz16_2 := kF BK481.out 2; have hfz16_3 := kF BK481.out 3))
     go_ret
     exact ⟨wQ, bE⟩
   ·rw [if_neg c5] at H; have c5b0 : (a0_2 == a1_2) = false := beq_eq_false_iff_ne.mpr c5; have c5b1 : (a0_2 != a1_2) = true := bne_iff_ne.mpr c5; obtain rfl := Option.some.inj H
    go_enter Try.func86, Try.ntmps86
    go_wp2_with (first | ((with_reducible refine gate_dst (N := 2) rfl ?_); refine bV 2 (cs := #[.int .i64 a0_0, .int .i64 a0_1, .int .i64 a0_2, .int .i64 a0_3]) (t := 48) rfl rfl (by first | (go_simp; done) | (go_simp; rfl)) ?_; intro gb480 hg w17 hbox hb; have BK480 := hbox; have GW480 := gZ HB hg; have GE480 := gZ HB hg; replace HB := tB HB hb; clear hb hbox hg) | ((with_reducible refine gate_dst (N := 3) rfl ?_); refine bV 3 (cs := #[.int .i64 a1_0, .int .i64 a1_1, .int .i64 a1_2, .int .i64 a1_3]) (t := 48) rfl rfl (by first | (go_simp; done) | (go_simp; rfl)) ?_; intro gb481 hg w18 hbox hb; have BK481 := hbox; have GW481 := gZ HB hg; have GE481 := gZ HB hg; have NB480_481 := nG BK480 hg; have NB481_480 := nH BK480 hg; replace BK480 := bB BK480 hb; replace HB := tB HB hb; clear hb hbox hg; have hnb19 := NB480_481.out; have hnc19 := NB481_480.out; have hcz20_0 := vZ0 BK480; have hcz20_1 := vZ1 BK480; have hcz20_2 := vZ2 BK480; have hcz20_3 := vZ3 BK480; have hfz20_0 := kF BK480.out 0; have hfz20_1 := kF BK480.out 1; have hfz20_2 := kF BK480.out 2; have hfz20_3 := kF BK480.out 3; have hcz21_0 := vZ0 BK481; have hcz21_1 := vZ1 BK481; have hcz21_2 := vZ2 BK481; have hcz21_3 := vZ3 BK481; have hfz21_0 := kF BK481.out 0; have hfz21_1 := kF BK481.out 1; have hfz21_2 := kF BK481.out 2; have hfz21_3 := kF BK481.out 3))
    go_ret
    exact ⟨wQ, bE⟩
  ·rw [if_neg c4] at H; have c4b0 : (a0_1 == a1_1) = false := beq_eq_false_iff_ne.mpr c4; have c4b1 : (a0_1 != a1_1) = true := bne_iff_ne.mpr c4; obtain rfl := Option.some.inj H
   go_enter Try.func86, Try.ntmps86
   go_wp2_with (first | ((with_reducible refine gate_dst (N := 2) rfl ?_); refine bV 2 (cs := #[.int .i64 a0_0, .int .i64 a0_1, .int .i64 a0_2, .int .i64 a0_3]) (t := 48) rfl rfl (by first | (go_simp; done) | (go_simp; rfl)) ?_; intro gb480 hg w22 hbox hb; have BK480 := hbox; have GW480 := gZ HB hg; have GE480 := gZ HB hg; replace HB := tB HB hb; clear hb hbox hg) | ((with_reducible refine gate_dst (N := 3) rfl ?_); refine bV 3 (cs := #[.int .i64 a1_0, .int .i64 a1_1, .int .i64 a1_2, .int .i64 a1_3]) (t := 48) rfl rfl (by first | (go_simp; done) | (go_simp; rfl)) ?_; intro gb481 hg w23 hbox hb; have BK481 := hbox; have GW481 := gZ HB hg; have GE481 := gZ HB hg; have NB480_481 := nG BK480 hg; have NB481_480 := nH BK480 hg; replace BK480 := bB BK480 hb; replace HB := tB HB hb; clear hb hbox hg; have hnb24 := NB480_481.out; have hnc24 := NB481_480.out; have hcz25_0 := vZ0 BK480; have hcz25_1 := vZ1 BK480; have hcz25_2 := vZ2 BK480; have hcz25_3 := vZ3 BK480; have hfz25_0 := kF BK480.out 0; have hfz25_1 := kF BK480.out 1; have hfz25_2 := kF BK480.out 2; have hfz25_3 := kF BK480.out 3; have hcz26_0 := vZ0 BK481; have hcz26_1 := vZ1 BK481; have hcz26_2 := vZ2 BK481; have hcz26_3 := vZ3 BK481; have hfz26_0 := kF BK481.out 0; have hfz26_1 := kF BK481.out 1; have hfz26_2 := kF BK481.out 2; have hfz26_3 := kF BK481.out 3))
   go_ret
   exact ⟨wQ, bE⟩
 ·rw [if_neg c3] at H; have c3b0 : (a0_0 == a1_0) = false := beq_eq_false_iff_ne.mpr c3; have c3b1 : (a0_0 != a1_0) = true := bne_iff_ne.mpr c3; obtain rfl := Option.some.inj H
  go_enter Try.func86, Try.ntmps86
  go_wp2_with (first | ((with_reducible refine gate_dst (N := 2) rfl ?_); refine bV 2 (cs := #[.int .i64 a0_0, .int .i64 a0_1, .int .i64 a0_2, .int .i64 a0_3]) (t := 48) rfl rfl (by first | (go_simp; done) | (go_simp; rfl)) ?_; intro gb480 hg w27 hbox hb; have BK480 := hbox; have GW480 := gZ HB hg; have GE480 := gZ HB hg; replace HB := tB HB hb; clear hb hbox hg) | ((with_reducible refine gate_dst (N := 3) rfl ?_); refine bV 3 (cs := #[.int .i64 a1_0, .int .i64 a1_1, .int .i64 a1_2, .int .i64 a1_3]) (t := 48) rfl rfl (by first | (go_simp; done) | (go_simp; rfl)) ?_; intro gb481 hg w28 hbox hb; have BK481 := hbox; have GW481 := gZ HB hg; have GE481 := gZ HB hg; have NB480_481 := nG BK480 hg; have NB481_480 := nH BK480 hg; replace BK480 := bB BK480 hb; replace HB := tB HB hb; clear hb hbox hg; have hnb29 := NB480_481.out; have hnc29 := NB481_480.out; have hcz30_0 := vZ0 BK480; have hcz30_1 := vZ1 BK480; have hcz30_2 := vZ2 BK480; have hcz30_3 := vZ3 BK480; have hfz30_0 := kF BK480.out 0; have hfz30_1 := kF BK480.out 1; have hfz30_2 := kF BK480.out 2; have hfz30_3 := kF BK480.out 3; have hcz31_0 := vZ0 BK481; have hcz31_1 := vZ1 BK481; have hcz31_2 := vZ2 BK481; have hcz31_3 := vZ3 BK481; have hfz31_0 := kF BK481.out 0; have hfz31_1 := kF BK481.out 1; have hfz31_2 := kF BK481.out 2; have hfz31_3 := kF BK481.out 3))
  go_ret
  exact ⟨wQ, bE⟩

end Go.Proofs.Ytoeclfihlhmnpaa.X
