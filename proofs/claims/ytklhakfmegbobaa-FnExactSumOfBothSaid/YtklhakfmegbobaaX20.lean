-- thin
-- short
-- compact
import Derived.Test.YtklhakfmegbobaaXA
import Derived.Test.YtklhakfmegbobaaX0
import Derived.Test.YtklhakfmegbobaaX12
import Derived.Test.YtklhakfmegbobaaX13
import Derived.Test.YtklhakfmegbobaaX14
import Derived.Test.YtklhakfmegbobaaX16
namespace Go.Proofs.Ytklhakfmegbobaa.X
open Go.RowKit Go.Proofs.Ytklhakfmegbobaa.XW Go.Proofs.YtklhakfmegbobaaW.PrintWords Go.Proofs.YtklhakfmegbobaaW.PrintLast Go.Proofs.YtklhakfmegbobaaW.PrintMore
attribute [local go_sem] max2_int min2_int max_two min_two max_three min_three max_four min_four   -- for this text's walks alone
set_option linter.unusedVariables false
set_option linter.unusedSimpArgs false

def impl_isConvex.l0 : Nat → List (S_impl_Peg) → Int → List (S_impl_Peg) → Int → Int → Option (Bool)
 | 0, _, _, _, _, _ => none
 | k + 1, x0, x3, x9, x10, x11 => if x11 < x10 then (if 0 ≤ x11 then (if x11 < (x9.length : Int) then ((impl_at.f x0 (wrap64 (x11 - 1))).bind fun bt388 => ((impl_at.f x0 (wrap64 (x11 + 1))).bind fun bt390 => ((impl_turn.f bt388.1 bt388.2 ((rd_impl_Peg x9 x11).f0) ((rd_impl_Peg x9 x11).f1) bt390.1 bt390.2).bind fun t392 => ((impl_sign.f t392).bind fun t393 => (if t393 = x3 then (impl_isConvex.l0 k x0 x3 x9 x10 (wrap64 (x11 + 1))) else (some false)))))) else (none)) else (none)) else (some true)
def impl_isConvex.f (k : Nat) (l0 : List (S_impl_Peg)) : Option (Bool) := (impl_twice.f k l0).bind fun t384 => ((impl_sign.f t384).bind fun t385 => (impl_isConvex.l0 k l0 t385 l0 (l0.length : Int) 0))
theorem impl_isConvex.mono_l : ∀ k, (∀ y0 y1 y2 y3 y4, LeO (impl_isConvex.l0 k y0 y1 y2 y3 y4) (impl_isConvex.l0 (k + 1) y0 y1 y2 y3 y4))
 | 0 => fun _ _ _ _ _ r h => by simp [impl_isConvex.l0] at h
 | k + 1 => by
  have ih0 := impl_isConvex.mono_l k
  ·intro y0 y1 y2 y3 y4
   unfold impl_isConvex.l0
   repeat' first
   | (with_reducible exact ih0 _ _ _ _ _)
   | (with_reducible exact impl_twice.mono _ _)
   | (with_reducible exact LeO.refl _)
   | (with_reducible exact LeO.none _)
   | (with_reducible refine LeO.ite ?_ ?_)
   | (with_reducible refine LeO.bind ?_ (fun _ => ?_))
   | exact ih0 _ _ _ _ _
   | exact impl_twice.mono _ _
   | exact LeO.none _
   | refine LeO.ite ?_ ?_
   | refine LeO.bind ?_ (fun _ => ?_)
theorem impl_isConvex.mono : ∀ a0 k, LeO (impl_isConvex.f k a0) (impl_isConvex.f (k + 1) a0) := by
 intro a0 k
 have ih0 := impl_isConvex.mono_l k
 unfold impl_isConvex.f
 repeat' first | (with_reducible exact ih0 _ _ _ _ _) | (with_reducible exact impl_twice.mono _ _) | (with_reducible exact LeO.refl _) | (with_reducible exact LeO.none _) | (with_reducible refine LeO.ite ?_ ?_) | (with_reducible refine LeO.bind ?_ (fun _ => ?_)) | exact ih0 _ _ _ _ _ | exact impl_twice.mono _ _ | exact LeO.none _ | refine LeO.ite ?_ ?_ | refine LeO.bind ?_ (fun _ => ?_)
def impl_isConvex.T5 : Bool × List (List Nat × List Nat) := (true, [([], []), ([], []), ([1], [1]), ([0, 2], [0, 2]), ([], []), ([], []), ([], []), ([6], [6]), ([5, 7, 3], [5, 7]), ([3, 4, 8, 8], [3, 4, 8]), ([9, 9], [9]), ([], []), ([10, 11], [10, 11])])
def impl_isConvex.B5 : List Nat := [0, 0, 2, 7, 0, 0, 0, 64, 239, 511, 1023, 0, 4095]
theorem impl_isConvex.tab5 : rtab .any (opsOf Try.f115 5) = impl_isConvex.T5 := by kernel_rfl
theorem impl_isConvex.bits5 : waitsOk impl_isConvex.T5.2 impl_isConvex.B5 = true := by kernel_rfl
set_option maxHeartbeats 8000000 in
set_option maxRecDepth 100000 in
theorem impl_isConvex.calls (k : Nat) (A0 : Option Addr) (c0 : Nat) (l0 : List (S_impl_Peg)) (r : Bool) (w : World) (hr0 : Kd.C kd_impl_Peg w A0 l0.length l0) (hc0 : l0.length ≤ c0) (h : impl_isConvex.f k l0 = some r) :
  Calls Try.prog 115 #[.slice A0 l0.length c0] w fun e w' => e = .returned (.bool r) ∧ Below w.heap.size w w' := by
 have hu26 := Try.underlying26; have HR0 := aM hr0; have HC0 := aM hc0; clear hr0 hc0; have HB := aM (Below.refl w.heap.size w)
 unfold impl_isConvex.f at h; have H := h; clear h
 replace H := bS H; obtain ⟨t384, A2, H⟩ := H; replace H := bS H; obtain ⟨t385, A3, H⟩ := H; have H' := aM H; clear H
 go_enter Try.func115, Try.ntmps115
 go_wp2_with (first | ((with_reducible refine gC (f := 61) rfl ?_); refine goesL_ (some 7) rfl rfl Try.func61 kR rfl #[.slice A0 l0.length c0] rfl sQ ?_; (with_reducible refine (impl_twice.calls k _ _ l0 t384 _ ?side1 ?side2 A2.out).mono ?_); (case side1 => repeat (first | exact HR0.out | (with_reducible refine cA ?_ _) | (with_reducible refine cN ?_ _) | (with_reducible refine cD ?_))); (case side2 => exact HC0.out); rintro e w4 ⟨rfl, hb⟩; refine ⟨_, rfl, ?_⟩; replace HB := tB HB hb; (try clear hb); (try clear hb2); (try clear hk); (try clear hi)) | ((with_reducible refine gC (f := 125) rfl ?_); refine goesL_ (some 8) rfl rfl Try.func125 kR rfl #[.int .i64 t384] rfl sQ ?_; (with_reducible refine (impl_sign.calls t384 t385 _ A3.out).mono ?_); rintro e w5 ⟨rfl, hb⟩; refine ⟨_, rfl, ?_⟩; replace HB := tB HB hb; (try clear hb); (try clear hb2); (try clear hk); (try clear hi)))
 go_loopg [11] k (fun kq v11 w' => ∃ (x11_1 : Int), v11 = .int .i64 x11_1 ∧ Aside0 (impl_isConvex.l0 kq l0 t385 l0 (l0.length : Int) x11_1 = some r) ∧ Aside0 (kq ≤ k) ∧ Aside0 (Below w.heap.size w w'))
 case atStart => exact ⟨(0), eQ, H', ⟨Nat.le_refl _⟩, ⟨bQ⟩⟩
 case round =>
  clear H'; obtain ⟨x11_1, rfl, HA, HK1, HB⟩ := hrel
  cases gk with
  | zero => exact absurd HA.out (by simp [impl_isConvex.l0])
  | succ k1 =>
   have H := HA.out; clear HA
   simp only [impl_isConvex.l0] at H
   by_cases c6 : x11_1 < (l0.length : Int)
   ·rw [if_pos c6] at H; have c6b0 := dE c6; clear c6; replace H := iD H; obtain ⟨c7b0, H⟩ := H; replace H := iD H; obtain ⟨c8b0, H⟩ := H; replace H := bS H; obtain ⟨⟨t388, t389⟩, A9, H⟩ := H; replace H := bS H; obtain ⟨⟨t390, t391⟩, A10, H⟩ := H; replace H := bS H; obtain ⟨t392, A11, H⟩ := H; replace H := bS H; obtain ⟨t393, A12, H⟩ := H
    by_cases c13 : t393 = t385
    ·rw [if_pos c13] at H; have c13b0 : (t393 == t385) = true := beq_iff_eq.mpr c13; have c13b1 : (t393 != t385) = false := bne_eq_false_iff_eq.mpr c13; clear c13; have H' := aM H; clear H; have p386 : 0 ≤ (x11_1 : Int) := dT aQ; have q386 : x11_1 < (l0.length : Int) := dT aQ; obtain ⟨ad386, e386, hx386_0, hx386_1⟩ := at_impl_Peg HR0.out x11_1 p386 q386
     cases e386
     replace hx386_0 := hC HB hx386_0; replace hx386_1 := hC HB hx386_1; replace p386 := eq_true p386; replace q386 := eq_true q386
     try go_wp2_with (first | ((with_reducible refine gate_dst (N := 5) rfl ?_); refine bV 5 (cs := #[.int .i64 0, .int .i64 0]) (t := 26) rfl rfl (by first | (go_simp; done) | (go_simp; rfl)) ?_; intro gb387 hg w14 hbox hb; have BK387 := hbox; have GW387 := gZ HB hg; have GE387 := gZ HB hg; replace HB := tB HB hb; clear hb hbox hg; have hcz15_0 := vZ0 BK387; have hcz15_1 := vZ1 BK387; have hfz15_0 := kF BK387.out 0; have hfz15_1 := kF BK387.out 1))
     have n0_ : Aside0 (((w14.setCell ⟨gb387, 0, none⟩ (.int .i64 ((rd_impl_Peg l0 x11_1).f0))).setCell ⟨gb387, 1, none⟩ (.int .i64 ((rd_impl_Peg l0 x11_1).f1))).heap[gb387]? = some (.cells #[.int .i64 ((rd_impl_Peg l0 x11_1).f0), .int .i64 ((rd_impl_Peg l0 x11_1).f1)] 26 (0, 0))) := ⟨fQ BK387⟩; have n1_ : Aside0 (Below w.heap.size w ((w14.setCell ⟨gb387, 0, none⟩ (.int .i64 ((rd_impl_Peg l0 x11_1).f0))).setCell ⟨gb387, 1, none⟩ (.int .i64 ((rd_impl_Peg l0 x11_1).f1)))) := ⟨bE⟩; (try clear BK387); (try clear HB)
     generalize ((w14.setCell ⟨gb387, 0, none⟩ (.int .i64 ((rd_impl_Peg l0 x11_1).f0))).setCell ⟨gb387, 1, none⟩ (.int .i64 ((rd_impl_Peg l0 x11_1).f1))) = w16 at n0_ n1_ ⊢
     have BK387 := n0_; have HB := n1_; clear n0_ n1_; replace BK387 := aM (kD BK387.out); replace HB := aM (pD HB.out)
     refine start_ (n := 13) (S := fun w' => w'.cell? ⟨gb387, 0, none⟩ = some (.int .i64 ((rd_impl_Peg l0 x11_1).f0)) ∧ w'.cell? ⟨gb387, 1, none⟩ = some (.int .i64 ((rd_impl_Peg l0 x11_1).f1))) (ds := []) (bA 13 0) kR rfl kR ⟨vZ0 BK387, vZ1 BK387⟩ (fun hHeld => ?_); refine with_tabW impl_isConvex.tab5 impl_isConvex.bits5 (fun HT_ HW_ => ?_)
     generalize w16.drew = w17 at BK387 HB hHeld ⊢
     refine pU 0 16 (bA 13 1) HT_ ?_; refine pU 1 17 (bA 13 3) HT_ ?_; refine pU 2 18 (bA 13 7) HT_ ?_; refine pU 5 21 (bA 13 39) HT_ ?_; refine pU 6 22 (bA 13 103) HT_ ?_; refine pU 7 23 (bA 13 231) HT_ ?_; refine pU 11 27 (bA 13 2279) HT_ ?_
     refine tU 4 20 (bA 13 2295) HT_ HW_ hHeld ?_ (hy := Or.inl ⟨by rfl, by rintro w' ⟨s0, s1⟩; go_simp; with_reducible rfl⟩)
     refine oU 3 19 (bA 13 2303) HT_ (fun K hK => ?_)
     refine goes_ Try.func108 kR rfl #[.slice (some ad386) l0.length c0, .int .i64 (wrap64 (x11_1 - 1))] (by rfl) rfl rfl sQ ?_
     with_reducible refine (impl_at.calls _ _ l0 (wrap64 (x11_1 - 1)) t388 t389 _ ?side1 ?side2 A9.out).mono ?_
     (case side1 => repeat (first | exact (Kd.C_below HR0.out HB.out) | (with_reducible refine cA ?_ _) | (with_reducible refine cN ?_ _) | (with_reducible refine cD ?_)))
     (case side2 => exact HC0.out)
     rintro e w18 ⟨rfl, hb⟩; refine ⟨_, rfl, ?_⟩; replace BK387 := bB BK387 hb; replace HB := tB HB hb; (try clear hb); (try clear hb2); (try clear hk); (try clear hi)
     refine hK.out _ _ ⟨vZ0 BK387, vZ1 BK387⟩ (fun hHeld => ?_)
     clear hK K
     refine nU ?_
     refine oU 8 24 (bA 13 2559) HT_ (fun K hK => ?_)
     refine goes_ Try.func108 kR rfl #[.slice (some ad386) l0.length c0, .int .i64 (wrap64 (x11_1 + 1))] (by rfl) rfl rfl sQ ?_
     with_reducible refine (impl_at.calls _ _ l0 (wrap64 (x11_1 + 1)) t390 t391 _ ?side1 ?side2 A10.out).mono ?_
     (case side1 => repeat (first | exact (Kd.C_below HR0.out HB.out) | (with_reducible refine cA ?_ _) | (with_reducible refine cN ?_ _) | (with_reducible refine cD ?_)))
     (case side2 => exact HC0.out)
     rintro e w19 ⟨rfl, hb⟩; refine ⟨_, rfl, ?_⟩; replace BK387 := bB BK387 hb; replace HB := tB HB hb; (try clear hb); (try clear hb2); (try clear hk); (try clear hi)
     refine hK.out _ _ ⟨vZ0 BK387, vZ1 BK387⟩ (fun hHeld => ?_)
     clear hK K
     refine nU ?_
     refine oU 9 25 (bA 13 3071) HT_ (fun K hK => ?_)
     refine goes_ Try.func111 kR rfl #[.agg #[.int .i64 t388, .int .i64 t389], .agg #[.int .i64 ((rd_impl_Peg l0 x11_1).f0), .int .i64 ((rd_impl_Peg l0 x11_1).f1)], .agg #[.int .i64 t390, .int .i64 t391]] (by rfl) rfl rfl sQ ?_
     with_reducible refine (impl_turn.calls t388 t389 ((rd_impl_Peg l0 x11_1).f0) ((rd_impl_Peg l0 x11_1).f1) t390 t391 t392 _ A11.out).mono ?_
     rintro e w20 ⟨rfl, hb⟩; refine ⟨_, rfl, ?_⟩; replace BK387 := bB BK387 hb; replace HB := tB HB hb; (try clear hb); (try clear hb2); (try clear hk); (try clear hi)
     refine hK.out _ _ ⟨vZ0 BK387, vZ1 BK387⟩ (fun hHeld => ?_)
     clear hK K
     refine nU ?_
     refine oU 10 26 (bA 13 4095) HT_ (fun K hK => ?_)
     refine goes_ Try.func125 kR rfl #[.int .i64 t392] (by rfl) rfl rfl sQ ?_
     with_reducible refine (impl_sign.calls t392 t393 _ A12.out).mono ?_
     rintro e w21 ⟨rfl, hb⟩; refine ⟨_, rfl, ?_⟩; replace BK387 := bB BK387 hb; replace HB := tB HB hb; (try clear hb); (try clear hb2); (try clear hk); (try clear hi)
     refine hK.out _ _ ⟨vZ0 BK387, vZ1 BK387⟩ (fun hHeld => ?_)
     clear hK K
     refine nU ?_
     refine pU 12 28 (bA 13 8191) HT_ ?_
     refine done_ (done_of HT_.out kR) ?_
     try go_wp2
     go_roundg k1
     case measure => have := HK1.out; omega
     case rel => exact ⟨(wrap64 (x11_1 + 1)), eQ, H', ⟨by have := HK1.out; omega⟩, ⟨bE⟩⟩
    ·rw [if_neg c13] at H; have c13b0 : (t393 == t385) = false := beq_eq_false_iff_ne.mpr c13; have c13b1 : (t393 != t385) = true := bne_iff_ne.mpr c13; obtain rfl := Option.some.inj H; have p386 : 0 ≤ (x11_1 : Int) := dT aQ; have q386 : x11_1 < (l0.length : Int) := dT aQ; obtain ⟨ad386, e386, hx386_0, hx386_1⟩ := at_impl_Peg HR0.out x11_1 p386 q386
     cases e386
     replace hx386_0 := hC HB hx386_0; replace hx386_1 := hC HB hx386_1; replace p386 := eq_true p386; replace q386 := eq_true q386
     try go_wp2_with (first | ((with_reducible refine gate_dst (N := 5) rfl ?_); refine bV 5 (cs := #[.int .i64 0, .int .i64 0]) (t := 26) rfl rfl (by first | (go_simp; done) | (go_simp; rfl)) ?_; intro gb387 hg w22 hbox hb; have BK387 := hbox; have GW387 := gZ HB hg; have GE387 := gZ HB hg; replace HB := tB HB hb; clear hb hbox hg; have hcz23_0 := vZ0 BK387; have hcz23_1 := vZ1 BK387; have hfz23_0 := kF BK387.out 0; have hfz23_1 := kF BK387.out 1))
     have n0_ : Aside0 (((w22.setCell ⟨gb387, 0, none⟩ (.int .i64 ((rd_impl_Peg l0 x11_1).f0))).setCell ⟨gb387, 1, none⟩ (.int .i64 ((rd_impl_Peg l0 x11_1).f1))).heap[gb387]? = some (.cells #[.int .i64 ((rd_impl_Peg l0 x11_1).f0), .int .i64 ((rd_impl_Peg l0 x11_1).f1)] 26 (0, 0))) := ⟨fQ BK387⟩; have n1_ : Aside0 (Below w.heap.size w ((w22.setCell ⟨gb387, 0, none⟩ (.int .i64 ((rd_impl_Peg l0 x11_1).f0))).setCell ⟨gb387, 1, none⟩ (.int .i64 ((rd_impl_Peg l0 x11_1).f1)))) := ⟨bE⟩; (try clear BK387); (try clear HB)
     generalize ((w22.setCell ⟨gb387, 0, none⟩ (.int .i64 ((rd_impl_Peg l0 x11_1).f0))).setCell ⟨gb387, 1, none⟩ (.int .i64 ((rd_impl_Peg l0 x11_1).f1))) = w24 at n0_ n1_ ⊢
     have BK387 := n0_; have HB := n1_; clear n0_ n1_; replace BK387 := aM (kD BK387.out); replace HB := aM (pD HB.out)
     refine start_ (n := 13) (S := fun w' => w'.cell? ⟨gb387, 0, none⟩ = some (.int .i64 ((rd_impl_Peg l0 x11_1).f0)) ∧ w'.cell? ⟨gb387, 1, none⟩ = some (.int .i64 ((rd_impl_Peg l0 x11_1).f1))) (ds := []) (bA 13 0) kR rfl kR ⟨vZ0 BK387, vZ1 BK387⟩ (fun hHeld => ?_); refine with_tabW impl_isConvex.tab5 impl_isConvex.bits5 (fun HT_ HW_ => ?_)
     generalize w24.drew = w25 at BK387 HB hHeld ⊢
     refine pU 0 16 (bA 13 1) HT_ ?_; refine pU 1 17 (bA 13 3) HT_ ?_; refine pU 2 18 (bA 13 7) HT_ ?_; refine pU 5 21 (bA 13 39) HT_ ?_; refine pU 6 22 (bA 13 103) HT_ ?_; refine pU 7 23 (bA 13 231) HT_ ?_; refine pU 11 27 (bA 13 2279) HT_ ?_
     refine tU 4 20 (bA 13 2295) HT_ HW_ hHeld ?_ (hy := Or.inl ⟨by rfl, by rintro w' ⟨s0, s1⟩; go_simp; with_reducible rfl⟩)
     refine oU 3 19 (bA 13 2303) HT_ (fun K hK => ?_)
     refine goes_ Try.func108 kR rfl #[.slice (some ad386) l0.length c0, .int .i64 (wrap64 (x11_1 - 1))] (by rfl) rfl rfl sQ ?_
     with_reducible refine (impl_at.calls _ _ l0 (wrap64 (x11_1 - 1)) t388 t389 _ ?side1 ?side2 A9.out).mono ?_
     (case side1 => repeat (first | exact (Kd.C_below HR0.out HB.out) | (with_reducible refine cA ?_ _) | (with_reducible refine cN ?_ _) | (with_reducible refine cD ?_)))
     (case side2 => exact HC0.out)
     rintro e w26 ⟨rfl, hb⟩; refine ⟨_, rfl, ?_⟩; replace BK387 := bB BK387 hb; replace HB := tB HB hb; (try clear hb); (try clear hb2); (try clear hk); (try clear hi)
     refine hK.out _ _ ⟨vZ0 BK387, vZ1 BK387⟩ (fun hHeld => ?_)
     clear hK K
     refine nU ?_
     refine oU 8 24 (bA 13 2559) HT_ (fun K hK => ?_)
     refine goes_ Try.func108 kR rfl #[.slice (some ad386) l0.length c0, .int .i64 (wrap64 (x11_1 + 1))] (by rfl) rfl rfl sQ ?_
     with_reducible refine (impl_at.calls _ _ l0 (wrap64 (x11_1 + 1)) t390 t391 _ ?side1 ?side2 A10.out).mono ?_
     (case side1 => repeat (first | exact (Kd.C_below HR0.out HB.out) | (with_reducible refine cA ?_ _) | (with_reducible refine cN ?_ _) | (with_reducible refine cD ?_)))
     (case side2 => exact HC0.out)
     rintro e w27 ⟨rfl, hb⟩; refine ⟨_, rfl, ?_⟩; replace BK387 := bB BK387 hb; replace HB := tB HB hb; (try clear hb); (try clear hb2); (try clear hk); (try clear hi)
     refine hK.out _ _ ⟨vZ0 BK387, vZ1 BK387⟩ (fun hHeld => ?_)
     clear hK K
     refine nU ?_
     refine oU 9 25 (bA 13 3071) HT_ (fun K hK => ?_)
     refine goes_ Try.func111 kR rfl #[.agg #[.int .i64 t388, .int .i64 t389], .agg #[.int .i64 ((rd_impl_Peg l0 x11_1).f0), .int .i64 ((rd_impl_Peg l0 x11_1).f1)], .agg #[.int .i64 t390, .int .i64 t391]] (by rfl) rfl rfl sQ ?_
     with_reducible refine (impl_turn.calls t388 t389 ((rd_impl_Peg l0 x11_1).f0) ((rd_impl_Peg l0 x11_1).f1) t390 t391 t392 _ A11.out).mono ?_
     rintro e w28 ⟨rfl, hb⟩; refine ⟨_, rfl, ?_⟩; replace BK387 := bB BK387 hb; replace HB := tB HB hb; (try clear hb); (try clear hb2); (try clear hk); (try clear hi)
     refine hK.out _ _ ⟨vZ0 BK387, vZ1 BK387⟩ (fun hHeld => ?_)
     clear hK K
     refine nU ?_
     refine oU 10 26 (bA 13 4095) HT_ (fun K hK => ?_)
     refine goes_ Try.func125 kR rfl #[.int .i64 t392] (by rfl) rfl rfl sQ ?_
     with_reducible refine (impl_sign.calls t392 t393 _ A12.out).mono ?_
     rintro e w29 ⟨rfl, hb⟩; refine ⟨_, rfl, ?_⟩; replace BK387 := bB BK387 hb; replace HB := tB HB hb; (try clear hb); (try clear hb2); (try clear hk); (try clear hi)
     refine hK.out _ _ ⟨vZ0 BK387, vZ1 BK387⟩ (fun hHeld => ?_)
     clear hK K
     refine nU ?_
     refine pU 12 28 (bA 13 8191) HT_ ?_
     refine done_ (done_of HT_.out kR) ?_
     try go_wp2
     go_ret
     exact ⟨wQ, bE⟩
   ·rw [if_neg c6] at H; have c6b0 := decide_eq_false c6; clear c6; obtain rfl := Option.some.inj H; go_wp2
    go_ret
    exact ⟨wQ, bQ⟩

def impl_size.f (a0 : Int) : Option (Int) := some (mx a0 (wrap64 (-a0)))
set_option maxHeartbeats 8000000 in
set_option maxRecDepth 100000 in
theorem impl_size.calls (a0 : Int) (r : Int) (w : World) (h : impl_size.f a0 = some r) :
  Calls Try.prog 126 #[.int .i64 a0] w fun e w' => e = .returned (.int .i64 r) ∧ Below w.heap.size w w' := by
 have HB := aM (Below.refl w.heap.size w)
 unfold impl_size.f at h; have H := h; clear h
 obtain ⟨ji2, hji2⟩ : ∃ j_ : Int, (mx a0 (wrap64 (-a0))) = j_ := ⟨_, rfl⟩
 (first | rw [hji2] at H | simp only [hji2] at H)
 have hji2_ : (if a0 < (wrap64 (-a0)) then (wrap64 (-a0)) else a0) = ji2 := hji2; obtain rfl := Option.some.inj H
 go_enter Try.func126, Try.ntmps126
 go_wp2
 go_ret
 exact ⟨by first | rfl | (simp [errW_none, errW_some] <;> rfl) | (simp only [← hji2]; first | rfl | (simp [errW_none, errW_some] <;> rfl)) | (simp [*, errW_none, errW_some] <;> rfl), bQ⟩

def impl_divisor.l0 : Nat → Int → Int → Option (Int)
 | 0, _, _ => none
 | k + 1, x0, x1 => if x1 = 0 then ((impl_size.f x0).bind fun t394 => (some t394)) else (impl_divisor.l0 k x1 (Int.tmod x0 x1))
def impl_divisor.f (k : Nat) (a0 : Int) (a1 : Int) : Option (Int) := impl_divisor.l0 k a0 a1
theorem impl_divisor.mono_l : ∀ k, (∀ y0 y1, LeO (impl_divisor.l0 k y0 y1) (impl_divisor.l0 (k + 1) y0 y1))
 | 0 => fun _ _ r h => by simp [impl_divisor.l0] at h
 | k + 1 => by
  have ih0 := impl_divisor.mono_l k
  ·intro y0 y1
   unfold impl_divisor.l0
   repeat' first
   | (with_reducible exact ih0 _ _)
   | (with_reducible exact LeO.refl _)
   | (with_reducible exact LeO.none _)
   | (with_reducible refine LeO.ite ?_ ?_)
   | (with_reducible refine LeO.bind ?_ (fun _ => ?_))
   | exact ih0 _ _
   | exact LeO.none _
   | refine LeO.ite ?_ ?_
   | refine LeO.bind ?_ (fun _ => ?_)
theorem impl_divisor.mono : ∀ a0 a1 k, LeO (impl_divisor.f k a0 a1) (impl_divisor.f (k + 1) a0 a1) := by
 intro a0 a1 k
 have ih0 := impl_divisor.mono_l k
 unfold impl_divisor.f
 repeat' first | (with_reducible exact ih0 _ _) | (with_reducible exact LeO.refl _) | (with_reducible exact LeO.none _) | (with_reducible refine LeO.ite ?_ ?_) | (with_reducible refine LeO.bind ?_ (fun _ => ?_)) | exact ih0 _ _ | exact LeO.none _ | refine LeO.ite ?_ ?_ | refine LeO.bind ?_ (fun _ => ?_)
set_option maxHeartbeats 8000000 in
set_option maxRecDepth 100000 in
theorem impl_divisor.calls (k : Nat) (a0 : Int) (a1 : Int) (r : Int) (w : World) (h : impl_divisor.f k a0 a1 = some r) :
  Calls Try.prog 144 #[.int .i64 a0, .int .i64 a1] w fun e w' => e = .returned (.int .i64 r) ∧ Below w.heap.size w w' := by
 have HB := aM (Below.refl w.heap.size w)
 unfold impl_divisor.f at h; have H := h; clear h
 have H' := aM H; clear H
 go_enter Try.func144, Try.ntmps144
 go_wp2
 repeat (go_quiet (fail); try go_wp2)
 go_loopg [0, 1] k (fun kq v0 v1 w' => ∃ (x0_1 : Int) (x1_1 : Int), v0 = .int .i64 x0_1 ∧ v1 = .int .i64 x1_1 ∧ Aside0 (impl_divisor.l0 kq x0_1 x1_1 = some r) ∧ Aside0 (kq ≤ k) ∧ Aside0 (Below w.heap.size w w'))
 case atStart => exact ⟨(a0), (a1), eQ, eQ, H', ⟨Nat.le_refl _⟩, ⟨bQ⟩⟩
 case round =>
  clear H'; obtain ⟨x0_1, x1_1, rfl, rfl, HA, HK1, HB⟩ := hrel
  cases gk with
  | zero => exact absurd HA.out (by simp [impl_divisor.l0])
  | succ k1 =>
   have H := HA.out; clear HA
   simp only [impl_divisor.l0] at H
   by_cases c3 : x1_1 = 0
   ·rw [if_pos c3] at H; have c3b0 : (x1_1 == 0) = true := beq_iff_eq.mpr c3; have c3b1 : (x1_1 != 0) = false := bne_eq_false_iff_eq.mpr c3; clear c3; replace H := bS H; obtain ⟨t394, A4, H⟩ := H; obtain rfl := Option.some.inj H
    go_wp2_with (first | (go_at_call 126; (with_reducible refine (impl_size.calls x0_1 t394 _ A4.out).mono ?_); rintro e w5 ⟨rfl, hb⟩; replace HB := tB HB hb; (try clear hb); (try clear hb2); (try clear hk); (try clear hi)))
    repeat (go_quiet (first | (go_at_call 126; (with_reducible refine (impl_size.calls x0_1 t394 _ A4.out).mono ?_); rintro e w5 ⟨rfl, hb⟩; have n0_ := tB HB hb; clear HB; have HB := n0_; clear n0_; (try clear hb); (try clear hb2); (try clear hk); (try clear hi))); try go_wp2_with (first | (go_at_call 126; (with_reducible refine (impl_size.calls x0_1 t394 _ A4.out).mono ?_); rintro e w5 ⟨rfl, hb⟩; have n0_ := tB HB hb; clear HB; have HB := n0_; clear n0_; (try clear hb); (try clear hb2); (try clear hk); (try clear hi))))
    go_ret
    exact ⟨wQ, bQ⟩
   ·rw [if_neg c3] at H; have c3b0 : (x1_1 == 0) = false := beq_eq_false_iff_ne.mpr c3; have c3b1 : (x1_1 != 0) = true := bne_iff_ne.mpr c3; have H' := aM H; clear H; go_wp2
    repeat (go_quiet (fail); try go_wp2)
    go_roundg k1
    case measure => have := HK1.out; omega
    case rel => exact ⟨(x1_1), (Int.tmod x0_1 x1_1), eQ, eQ, H', ⟨by have := HK1.out; omega⟩, ⟨bQ⟩⟩

def impl_steps.f (k : Nat) (a0_0 : Int) (a0_1 : Int) (a1_0 : Int) (a1_1 : Int) : Option (Int) := (impl_divisor.f k (wrap64 (a0_0 - a1_0)) (wrap64 (a0_1 - a1_1))).bind fun t397 => (some t397)
theorem impl_steps.mono : ∀ a0 a1 a2 a3 k, LeO (impl_steps.f k a0 a1 a2 a3) (impl_steps.f (k + 1) a0 a1 a2 a3) := by
 intro a0 a1 a2 a3 k
 unfold impl_steps.f
 repeat' first | (with_reducible exact impl_divisor.mono _ _ _) | (with_reducible exact LeO.refl _) | (with_reducible exact LeO.none _) | (with_reducible refine LeO.ite ?_ ?_) | (with_reducible refine LeO.bind ?_ (fun _ => ?_)) | exact impl_divisor.mono _ _ _ | exact LeO.none _ | refine LeO.ite ?_ ?_ | refine LeO.bind ?_ (fun _ => ?_)
set_option maxHeartbeats 8000000 in
set_option maxRecDepth 100000 in
theorem impl_steps.calls (k : Nat) (a0_0 : Int) (a0_1 : Int) (a1_0 : Int) (a1_1 : Int) (r : Int) (w : World) (h : impl_steps.f k a0_0 a0_1 a1_0 a1_1 = some r) :
  Calls Try.prog 135 #[.agg #[.int .i64 a0_0, .int .i64 a0_1], .agg #[.int .i64 a1_0, .int .i64 a1_1]] w fun e w' => e = .returned (.int .i64 r) ∧ Below w.heap.size w w' := by
 have hu26 := Try.underlying26; have HB := aM (Below.refl w.heap.size w)
 unfold impl_steps.f at h; have H := h; clear h
 replace H := bS H; obtain ⟨t397, A3, H⟩ := H; obtain rfl := Option.some.inj H
 go_enter Try.func135, Try.ntmps135
 go_wp2_with (first | ((with_reducible refine gate_dst (N := 2) rfl ?_); refine bV 2 (cs := #[.int .i64 a0_0, .int .i64 a0_1]) (t := 26) rfl rfl (by first | (go_simp; done) | (go_simp; rfl)) ?_; intro gb395 hg w4 hbox hb; have BK395 := hbox; have GW395 := gZ HB hg; have GE395 := gZ HB hg; replace HB := tB HB hb; clear hb hbox hg) | ((with_reducible refine gate_dst (N := 3) rfl ?_); refine bV 3 (cs := #[.int .i64 a1_0, .int .i64 a1_1]) (t := 26) rfl rfl (by first | (go_simp; done) | (go_simp; rfl)) ?_; intro gb396 hg w5 hbox hb; have BK396 := hbox; have GW396 := gZ HB hg; have GE396 := gZ HB hg; have NB395_396 := nG BK395 hg; have NB396_395 := nH BK395 hg; replace BK395 := bB BK395 hb; replace HB := tB HB hb; clear hb hbox hg; have hnb6 := NB395_396.out; have hnc6 := NB396_395.out; have hcz7_0 := vZ0 BK395; have hcz7_1 := vZ1 BK395; have hfz7_0 := kF BK395.out 0; have hfz7_1 := kF BK395.out 1; have hcz8_0 := vZ0 BK396; have hcz8_1 := vZ1 BK396; have hfz8_0 := kF BK396.out 0; have hfz8_1 := kF BK396.out 1) | ((with_reducible refine gC (f := 144) rfl ?_); refine goesL_ (some 15) rfl rfl Try.func144 kR rfl #[.int .i64 (wrap64 (a0_0 - a1_0)), .int .i64 (wrap64 (a0_1 - a1_1))] rfl sQ ?_; (with_reducible refine (impl_divisor.calls k (wrap64 (a0_0 - a1_0)) (wrap64 (a0_1 - a1_1)) t397 _ A3.out).mono ?_); rintro e w9 ⟨rfl, hb⟩; refine ⟨_, rfl, ?_⟩; replace BK395 := bB BK395 hb; replace BK396 := bB BK396 hb; replace HB := tB HB hb; (try clear hb); (try clear hb2); (try clear hk); (try clear hi)))
 go_ret
 exact ⟨wQ, bE⟩

end Go.Proofs.Ytklhakfmegbobaa.X
