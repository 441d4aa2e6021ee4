-- thin
-- short
-- compact
import Derived.Test.YtklhakfmegbobaaXA
import Derived.Test.YtklhakfmegbobaaX0
import Derived.Test.YtklhakfmegbobaaX7
import Derived.Test.YtklhakfmegbobaaX8
import Derived.Test.YtklhakfmegbobaaX10
namespace Go.Proofs.Ytklhakfmegbobaa.X
open Go.RowKit Go.Proofs.Ytklhakfmegbobaa.XW Go.Proofs.YtklhakfmegbobaaW.PrintWords Go.Proofs.YtklhakfmegbobaaW.PrintLast Go.Proofs.YtklhakfmegbobaaW.PrintMore
attribute [local go_sem] max2_int min2_int max_two min_two max_three min_three max_four min_four   -- for this text's walks alone
set_option linter.unusedVariables false
set_option linter.unusedSimpArgs false

def impl_isThree.f (k : Nat) (l0 : List (S_impl_Peg)) : Option (Bool) := if (l0.length : Int) = 3 then ((impl_IsPolygon.f k l0).bind fun t258 => (some t258)) else (some false)
theorem impl_isThree.mono : ∀ a0 k, LeO (impl_isThree.f k a0) (impl_isThree.f (k + 1) a0) := by
 intro a0 k
 unfold impl_isThree.f
 repeat' first | (with_reducible exact impl_IsPolygon.mono _ _) | (with_reducible exact LeO.refl _) | (with_reducible exact LeO.none _) | (with_reducible refine LeO.ite ?_ ?_) | (with_reducible refine LeO.bind ?_ (fun _ => ?_)) | exact impl_IsPolygon.mono _ _ | exact LeO.none _ | refine LeO.ite ?_ ?_ | refine LeO.bind ?_ (fun _ => ?_)
set_option maxHeartbeats 8000000 in
set_option maxRecDepth 100000 in
theorem impl_isThree.calls (k : Nat) (A0 : Option Addr) (c0 : Nat) (l0 : List (S_impl_Peg)) (r : Bool) (w : World) (hr0 : Kd.C kd_impl_Peg w A0 l0.length l0) (hc0 : l0.length ≤ c0) (h : impl_isThree.f k l0 = some r) :
  Calls Try.prog 58 #[.slice A0 l0.length c0] w fun e w' => e = .returned (.bool r) ∧ Below w.heap.size w w' := by
 have HR0 := aM hr0; have HC0 := aM hc0; clear hr0 hc0; have HB := aM (Below.refl w.heap.size w)
 unfold impl_isThree.f at h; have H := h; clear h
 by_cases c2 : (l0.length : Int) = 3
 ·rw [if_pos c2] at H; have c2b0 : ((l0.length : Int) == 3) = true := beq_iff_eq.mpr c2; have c2b1 : ((l0.length : Int) != 3) = false := bne_eq_false_iff_eq.mpr c2; clear c2; replace H := bS H; obtain ⟨t258, A3, H⟩ := H; obtain rfl := Option.some.inj H
  go_enter Try.func58, Try.ntmps58
  go_wp2_with (first | (go_at_call 65; (with_reducible refine (impl_IsPolygon.calls k _ _ l0 t258 _ ?side1 ?side2 A3.out).mono ?_); (case side1 => repeat (first | exact HR0.out | (with_reducible refine cA ?_ _) | (with_reducible refine cN ?_ _) | (with_reducible refine cD ?_))); (case side2 => exact HC0.out); rintro e w4 ⟨rfl, hb⟩; replace HB := tB HB hb; (try clear hb); (try clear hb2); (try clear hk); (try clear hi)))
  go_ret
  exact ⟨wQ, bQ⟩
 ·rw [if_neg c2] at H; have c2b0 : ((l0.length : Int) == 3) = false := beq_eq_false_iff_ne.mpr c2; have c2b1 : ((l0.length : Int) != 3) = true := bne_iff_ne.mpr c2; obtain rfl := Option.some.inj H
  go_enter Try.func58, Try.ntmps58
  go_wp2
  go_ret
  exact ⟨wQ, bQ⟩

def impl_Peg_plus.f (a0_0 : Int) (a0_1 : Int) (a1_0 : Int) (a1_1 : Int) : Option (Int × Int) := some (wrap64 (a0_0 + a1_0), wrap64 (a0_1 + a1_1))
set_option maxHeartbeats 8000000 in
set_option maxRecDepth 100000 in
theorem impl_Peg_plus.calls (a0_0 : Int) (a0_1 : Int) (a1_0 : Int) (a1_1 : Int) (r1 : Int) (r2 : Int) (w : World) (h : impl_Peg_plus.f a0_0 a0_1 a1_0 a1_1 = some (r1, r2)) :
  Calls Try.prog 60 #[.agg #[.int .i64 a0_0, .int .i64 a0_1], .agg #[.int .i64 a1_0, .int .i64 a1_1]] w fun e w' => e = .returned (.agg #[.int .i64 r1, .int .i64 r2]) ∧ Below w.heap.size w w' := by
 have hu26 := Try.underlying26; have HB := aM (Below.refl w.heap.size w)
 unfold impl_Peg_plus.f at h; have H := h; clear h
 simp only [Option.some.injEq, Prod.mk.injEq] at H
 obtain ⟨rfl, rfl⟩ := H
 go_enter Try.func60, Try.ntmps60
 go_wp2_with (first | ((with_reducible refine gate_dst (N := 2) rfl ?_); refine bV 2 (cs := #[.int .i64 a0_0, .int .i64 a0_1]) (t := 26) rfl rfl (by first | (go_simp; done) | (go_simp; rfl)) ?_; intro gb259 hg w3 hbox hb; have BK259 := hbox; have GW259 := gZ HB hg; have GE259 := gZ HB hg; replace HB := tB HB hb; clear hb hbox hg) | ((with_reducible refine gate_dst (N := 3) rfl ?_); refine bV 3 (cs := #[.int .i64 a1_0, .int .i64 a1_1]) (t := 26) rfl rfl (by first | (go_simp; done) | (go_simp; rfl)) ?_; intro gb260 hg w4 hbox hb; have BK260 := hbox; have GW260 := gZ HB hg; have GE260 := gZ HB hg; have NB259_260 := nG BK259 hg; have NB260_259 := nH BK259 hg; replace BK259 := bB BK259 hb; replace HB := tB HB hb; clear hb hbox hg) | ((with_reducible refine gate_dst (N := 4) rfl ?_); refine bV 4 (cs := #[.int .i64 0, .int .i64 0]) (t := 26) rfl rfl (by first | (go_simp; done) | (go_simp; rfl)) ?_; intro gb261 hg w5 hbox hb; have BK261 := hbox; have GW261 := gZ HB hg; have GE261 := gZ HB hg; have NB259_261 := nG BK259 hg; have NB261_259 := nH BK259 hg; have NB260_261 := nG BK260 hg; have NB261_260 := nH BK260 hg; replace BK259 := bB BK259 hb; replace BK260 := bB BK260 hb; replace HB := tB HB hb; clear hb hbox hg; have hnb6 := NB259_260.out; have hnc6 := NB260_259.out; have hnb7 := NB259_261.out; have hnc7 := NB261_259.out; have hcz8_0 := vZ0 BK259; have hcz8_1 := vZ1 BK259; have hfz8_0 := kF BK259.out 0; have hfz8_1 := kF BK259.out 1; have hnb9 := NB260_261.out; have hnc9 := NB261_260.out; have hcz10_0 := vZ0 BK260; have hcz10_1 := vZ1 BK260; have hfz10_0 := kF BK260.out 0; have hfz10_1 := kF BK260.out 1; have hcz11_0 := vZ0 BK261; have hcz11_1 := vZ1 BK261; have hfz11_0 := kF BK261.out 0; have hfz11_1 := kF BK261.out 1))
 refine bodyPost_ret (results_cell_row rfl _ _ gb261 26 #[.int .i64 (wrap64 (a0_0 + a1_0)), .int .i64 (wrap64 (a0_1 + a1_1))] (0, 0) _ rfl (fQ BK261) Try.underlying26 rfl kR) rfl ?_
 exact ⟨wQ, bE⟩

def impl_twice.l0 : Nat → List (S_impl_Peg) → Int → List (S_impl_Peg) → Int → Int → Option (Int)
 | 0, _, _, _, _, _ => none
 | k + 1, x0, x3, x6, x7, x8 => if x8 < x7 then (if 0 ≤ x8 then (if x8 < (x6.length : Int) then ((impl_at.f x0 (wrap64 (x8 + 1))).bind fun bt264 => ((impl_cross.f ((rd_impl_Peg x6 x8).f0) ((rd_impl_Peg x6 x8).f1) bt264.1 bt264.2).bind fun t266 => (impl_twice.l0 k x0 (wrap64 (x3 + t266)) x6 x7 (wrap64 (x8 + 1))))) else (none)) else (none)) else (some x3)
def impl_twice.f (k : Nat) (l0 : List (S_impl_Peg)) : Option (Int) := impl_twice.l0 k l0 0 l0 (l0.length : Int) 0
theorem impl_twice.mono_l : ∀ k, (∀ y0 y1 y2 y3 y4, LeO (impl_twice.l0 k y0 y1 y2 y3 y4) (impl_twice.l0 (k + 1) y0 y1 y2 y3 y4))
 | 0 => fun _ _ _ _ _ r h => by simp [impl_twice.l0] at h
 | k + 1 => by
  have ih0 := impl_twice.mono_l k
  ·intro y0 y1 y2 y3 y4
   unfold impl_twice.l0
   repeat' first
   | (with_reducible exact ih0 _ _ _ _ _)
   | (with_reducible exact LeO.refl _)
   | (with_reducible exact LeO.none _)
   | (with_reducible refine LeO.ite ?_ ?_)
   | (with_reducible refine LeO.bind ?_ (fun _ => ?_))
   | exact ih0 _ _ _ _ _
   | exact LeO.none _
   | refine LeO.ite ?_ ?_
   | refine LeO.bind ?_ (fun _ => ?_)
theorem impl_twice.mono : ∀ a0 k, LeO (impl_twice.f k a0) (impl_twice.f (k + 1) a0) := by
 intro a0 k
 have ih0 := impl_twice.mono_l k
 unfold impl_twice.f
 repeat' first | (with_reducible exact ih0 _ _ _ _ _) | (with_reducible exact LeO.refl _) | (with_reducible exact LeO.none _) | (with_reducible refine LeO.ite ?_ ?_) | (with_reducible refine LeO.bind ?_ (fun _ => ?_)) | exact ih0 _ _ _ _ _ | exact LeO.none _ | refine LeO.ite ?_ ?_ | refine LeO.bind ?_ (fun _ => ?_)
def impl_twice.T5 : Bool × List (List Nat × List Nat) := (true, [([], []), ([], []), ([], []), ([], []), ([3], [3]), ([2, 4], [2, 4]), ([1, 5, 5], [1, 5]), ([0, 6], [0, 6]), ([7, 6, 0, 1, 2, 3, 4, 5, 6, 7], [0, 7])])
def impl_twice.B5 : List Nat := [0, 0, 0, 0, 8, 28, 62, 127, 255]
theorem impl_twice.tab5 : rtab .any (opsOf Try.f61 5) = impl_twice.T5 := by kernel_rfl
theorem impl_twice.bits5 : waitsOk impl_twice.T5.2 impl_twice.B5 = true := by kernel_rfl
set_option maxHeartbeats 8000000 in
set_option maxRecDepth 100000 in
theorem impl_twice.calls (k : Nat) (A0 : Option Addr) (c0 : Nat) (l0 : List (S_impl_Peg)) (r : Int) (w : World) (hr0 : Kd.C kd_impl_Peg w A0 l0.length l0) (hc0 : l0.length ≤ c0) (h : impl_twice.f k l0 = some r) :
  Calls Try.prog 61 #[.slice A0 l0.length c0] w fun e w' => e = .returned (.int .i64 r) ∧ Below w.heap.size w w' := by
 have hu26 := Try.underlying26; have HR0 := aM hr0; have HC0 := aM hc0; clear hr0 hc0; have HB := aM (Below.refl w.heap.size w)
 unfold impl_twice.f at h; have H := h; clear h
 have H' := aM H; clear H
 go_enter Try.func61, Try.ntmps61
 go_wp2
 go_loopg [3, 8] k (fun kq v3 v8 w' => ∃ (x3_1 : Int) (x8_1 : Int), v3 = .int .i64 x3_1 ∧ v8 = .int .i64 x8_1 ∧ Aside0 (impl_twice.l0 kq l0 x3_1 l0 (l0.length : Int) x8_1 = some r) ∧ Aside0 (kq ≤ k) ∧ Aside0 (Below w.heap.size w w'))
 case atStart => exact ⟨(0), (0), eQ, eQ, H', ⟨Nat.le_refl _⟩, ⟨bQ⟩⟩
 case round =>
  clear H'; obtain ⟨x3_1, x8_1, rfl, rfl, HA, HK1, HB⟩ := hrel
  cases gk with
  | zero => exact absurd HA.out (by simp [impl_twice.l0])
  | succ k1 =>
   have H := HA.out; clear HA
   simp only [impl_twice.l0] at H
   by_cases c2 : x8_1 < (l0.length : Int)
   ·rw [if_pos c2] at H; have c2b0 := dE c2; clear c2; replace H := iD H; obtain ⟨c3b0, H⟩ := H; replace H := iD H; obtain ⟨c4b0, H⟩ := H; replace H := bS H; obtain ⟨⟨t264, t265⟩, A5, H⟩ := H; replace H := bS H; obtain ⟨t266, A6, H⟩ := H; have H' := aM H; clear H; have p262 : 0 ≤ (x8_1 : Int) := dT aQ; have q262 : x8_1 < (l0.length : Int) := dT aQ; obtain ⟨ad262, e262, hx262_0, hx262_1⟩ := at_impl_Peg HR0.out x8_1 p262 q262
    cases e262
    replace hx262_0 := hC HB hx262_0; replace hx262_1 := hC HB hx262_1; replace p262 := eq_true p262; replace q262 := eq_true q262
    try go_wp2_with (first | ((with_reducible refine gate_dst (N := 5) rfl ?_); refine bV 5 (cs := #[.int .i64 0, .int .i64 0]) (t := 26) rfl rfl (by first | (go_simp; done) | (go_simp; rfl)) ?_; intro gb263 hg w7 hbox hb; have BK263 := hbox; have GW263 := gZ HB hg; have GE263 := gZ HB hg; replace HB := tB HB hb; clear hb hbox hg; have hcz8_0 := vZ0 BK263; have hcz8_1 := vZ1 BK263; have hfz8_0 := kF BK263.out 0; have hfz8_1 := kF BK263.out 1))
    have n0_ : Aside0 (((w7.setCell ⟨gb263, 0, none⟩ (.int .i64 ((rd_impl_Peg l0 x8_1).f0))).setCell ⟨gb263, 1, none⟩ (.int .i64 ((rd_impl_Peg l0 x8_1).f1))).heap[gb263]? = some (.cells #[.int .i64 ((rd_impl_Peg l0 x8_1).f0), .int .i64 ((rd_impl_Peg l0 x8_1).f1)] 26 (0, 0))) := ⟨fQ BK263⟩; have n1_ : Aside0 (Below w.heap.size w ((w7.setCell ⟨gb263, 0, none⟩ (.int .i64 ((rd_impl_Peg l0 x8_1).f0))).setCell ⟨gb263, 1, none⟩ (.int .i64 ((rd_impl_Peg l0 x8_1).f1)))) := ⟨bE⟩; (try clear BK263); (try clear HB)
    generalize ((w7.setCell ⟨gb263, 0, none⟩ (.int .i64 ((rd_impl_Peg l0 x8_1).f0))).setCell ⟨gb263, 1, none⟩ (.int .i64 ((rd_impl_Peg l0 x8_1).f1))) = w9 at n0_ n1_ ⊢
    have BK263 := n0_; have HB := n1_; clear n0_ n1_; replace BK263 := aM (kD BK263.out); replace HB := aM (pD HB.out)
    refine start_ (n := 9) (S := fun w' => w'.cell? ⟨gb263, 0, none⟩ = some (.int .i64 ((rd_impl_Peg l0 x8_1).f0)) ∧ w'.cell? ⟨gb263, 1, none⟩ = some (.int .i64 ((rd_impl_Peg l0 x8_1).f1))) (ds := []) (bA 9 0) kR rfl kR ⟨vZ0 BK263, vZ1 BK263⟩ (fun hHeld => ?_); refine with_tabW impl_twice.tab5 impl_twice.bits5 (fun HT_ HW_ => ?_)
    generalize w9.drew = w10 at BK263 HB hHeld ⊢
    refine pU 0 13 (bA 9 1) HT_ ?_; refine pU 2 15 (bA 9 5) HT_ ?_; refine pU 3 16 (bA 9 13) HT_ ?_; refine pU 4 17 (bA 9 29) HT_ ?_
    refine tU 1 14 (bA 9 31) HT_ HW_ hHeld ?_ (hy := Or.inl ⟨by rfl, by rintro w' ⟨s0, s1⟩; go_simp; with_reducible rfl⟩)
    refine oU 5 18 (bA 9 63) HT_ (fun K hK => ?_)
    refine goes_ Try.func108 kR rfl #[.slice (some ad262) l0.length c0, .int .i64 (wrap64 (x8_1 + 1))] (by rfl) rfl rfl sQ ?_
    with_reducible refine (impl_at.calls _ _ l0 (wrap64 (x8_1 + 1)) t264 t265 _ ?side1 ?side2 A5.out).mono ?_
    (case side1 => repeat (first | exact (Kd.C_below HR0.out HB.out) | (with_reducible refine cA ?_ _) | (with_reducible refine cN ?_ _) | (with_reducible refine cD ?_)))
    (case side2 => exact HC0.out)
    rintro e w11 ⟨rfl, hb⟩; refine ⟨_, rfl, ?_⟩; replace BK263 := bB BK263 hb; replace HB := tB HB hb; (try clear hb); (try clear hb2); (try clear hk); (try clear hi)
    refine hK.out _ _ ⟨vZ0 BK263, vZ1 BK263⟩ (fun hHeld => ?_)
    clear hK K
    refine nU ?_
    refine oU 6 19 (bA 9 127) HT_ (fun K hK => ?_)
    refine goes_ Try.func107 kR rfl #[.agg #[.int .i64 ((rd_impl_Peg l0 x8_1).f0), .int .i64 ((rd_impl_Peg l0 x8_1).f1)], .agg #[.int .i64 t264, .int .i64 t265]] (by rfl) rfl rfl sQ ?_
    with_reducible refine (impl_cross.calls ((rd_impl_Peg l0 x8_1).f0) ((rd_impl_Peg l0 x8_1).f1) t264 t265 t266 _ A6.out).mono ?_
    rintro e w12 ⟨rfl, hb⟩; refine ⟨_, rfl, ?_⟩; replace BK263 := bB BK263 hb; replace HB := tB HB hb; (try clear hb); (try clear hb2); (try clear hk); (try clear hi)
    refine hK.out _ _ ⟨vZ0 BK263, vZ1 BK263⟩ (fun hHeld => ?_)
    clear hK K
    refine nU ?_
    refine pU 7 20 (bA 9 255) HT_ ?_; refine pU 8 3 (bA 9 511) HT_ ?_
    refine done_ (done_of HT_.out kR) ?_
    try go_wp2
    go_roundg k1
    case measure => have := HK1.out; omega
    case rel => exact ⟨(wrap64 (x3_1 + t266)), (wrap64 (x8_1 + 1)), eQ, eQ, H', ⟨by have := HK1.out; omega⟩, ⟨bE⟩⟩
   ·rw [if_neg c2] at H; have c2b0 := decide_eq_false c2; clear c2; obtain rfl := Option.some.inj H; go_wp2
    go_ret
    exact ⟨wQ, bQ⟩

end Go.Proofs.Ytklhakfmegbobaa.X
