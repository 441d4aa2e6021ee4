-- thin
-- short
-- compact
import Derived.Test.YtklhakfmegbobaaXA
import Derived.Test.YtklhakfmegbobaaX0
import Derived.Test.YtklhakfmegbobaaX8
import Derived.Test.YtklhakfmegbobaaXW2
namespace Go.Proofs.Ytklhakfmegbobaa.X
open Go.RowKit Go.Proofs.Ytklhakfmegbobaa.XW Go.Proofs.YtklhakfmegbobaaW.PrintWords Go.Proofs.YtklhakfmegbobaaW.PrintLast Go.Proofs.YtklhakfmegbobaaW.PrintMore
attribute [local go_sem] max2_int min2_int max_two min_two max_three min_three max_four min_four   -- for this text's walks alone
set_option linter.unusedVariables false
set_option linter.unusedSimpArgs false

def impl_twice.l0 : Nat → List (S_impl_Peg) → Int → List (S_impl_Peg) → Int → Int → Option (Int)
 | 0, _, _, _, _, _ => none
 | k + 1, x0, x3, x6, x7, x8 => if x8 < x7 then (if 0 ≤ x8 then (if x8 < (x6.length : Int) then ((impl_at.f x0 (wrap64 (x8 + 1))).bind fun bt279 => ((impl_cross.f ((rd_impl_Peg x6 x8).f0) ((rd_impl_Peg x6 x8).f1) bt279.1 bt279.2).bind fun t281 => (impl_twice.l0 k x0 (wrap64 (x3 + t281)) x6 x7 (wrap64 (x8 + 1))))) else (none)) else (none)) else (some x3)
def impl_twice.f (k : Nat) (l0 : List (S_impl_Peg)) : Option (Int) := impl_twice.l0 k l0 0 l0 (l0.length : Int) 0
theorem impl_twice.mono_l : ∀ k, (∀ y0 y1 y2 y3 y4, LeO (impl_twice.l0 k y0 y1 y2 y3 y4) (impl_twice.l0 (k + 1) y0 y1 y2 y3 y4))
 | 0 => fun _ _ _ _ _ r h => by simp [impl_twice.l0] at h
 | k + 1 => by
  have ih0 := impl_twice.mono_l k
  ·intro y0 y1 y2 y3 y4
   unfold impl_twice.l0
   repeat' first
   | (with_reducible exact ih0 _ _ _ _ _)
   | (with_reducible exact LeO.refl _)
   | (with_reducible exact LeO.none _)
   | (with_reducible refine LeO.ite ?_ ?_)
   | (with_reducible refine LeO.bind ?_ (fun _ => ?_))
   | exact ih0 _ _ _ _ _
   | exact LeO.none _
   | refine LeO.ite ?_ ?_
   | refine LeO.bind ?_ (fun _ => ?_)
theorem impl_twice.mono : ∀ a0 k, LeO (impl_twice.f k a0) (impl_twice.f (k + 1) a0) := by
 intro a0 k
 have ih0 := impl_twice.mono_l k
 unfold impl_twice.f
 repeat' first | (with_reducible exact ih0 _ _ _ _ _) | (with_reducible exact LeO.refl _) | (with_reducible exact LeO.none _) | (with_reducible refine LeO.ite ?_ ?_) | (with_reducible refine LeO.bind ?_ (fun _ => ?_)) | exact ih0 _ _ _ _ _ | exact LeO.none _ | refine LeO.ite ?_ ?_ | refine LeO.bind ?_ (fun _ => ?_)
def impl_twice.T5 : Bool × List (List Nat × List Nat) := (true, [([], []), ([], []), ([], []), ([], []), ([3], [3]), ([2, 4], [2, 4]), ([1, 5, 5], [1, 5]), ([0, 6], [0, 6]), ([7, 6, 0, 1, 2, 3, 4, 5, 6, 7], [0, 7])])
def impl_twice.B5 : List Nat := [0, 0, 0, 0, 8, 28, 62, 127, 255]
theorem impl_twice.tab5 : rtab .any (opsOf Try.f61 5) = impl_twice.T5 := by kernel_rfl
theorem impl_twice.bits5 : waitsOk impl_twice.T5.2 impl_twice.B5 = true := by kernel_rfl
set_option maxHeartbeats 8000000 in
set_option maxRecDepth 100000 in
theorem impl_twice.calls (k : Nat) (A0 : Option Addr) (c0 : Nat) (l0 : List (S_impl_Peg)) (r : Int) (w : World) (hr0 : Kd.C kd_impl_Peg w A0 l0.length l0) (hc0 : l0.length ≤ c0) (h : impl_twice.f k l0 = some r) :
  Calls Try.prog 61 #[.slice A0 l0.length c0] w fun e w' => e = .returned (.int .i64 r) ∧ Below w.heap.size w w' := by
 have hu26 := Try.underlying26; have HR0 := aM hr0; have HC0 := aM hc0; clear hr0 hc0; have HB := aM (Below.refl w.heap.size w)
 unfold impl_twice.f at h; have H := h; clear h
 have H' := aM H; clear H
 go_enter Try.func61, Try.ntmps61
 go_wp2
 go_loopg [3, 8] k (fun kq v3 v8 w' => ∃ (x3_1 : Int) (x8_1 : Int), v3 = .int .i64 x3_1 ∧ v8 = .int .i64 x8_1 ∧ Aside0 (impl_twice.l0 kq l0 x3_1 l0 (l0.length : Int) x8_1 = some r) ∧ Aside0 (kq ≤ k) ∧ Aside0 (Below w.heap.size w w'))
 case atStart => exact ⟨(0), (0), eQ, eQ, H', ⟨Nat.le_refl _⟩, ⟨bQ⟩⟩
 case round =>
  clear H'; obtain ⟨x3_1, x8_1, rfl, rfl, HA, HK1, HB⟩ := hrel
  cases gk with
  | zero => exact absurd HA.out (by simp [impl_twice.l0])
  | succ k1 =>
   have H := HA.out; clear HA
   simp only [impl_twice.l0] at H
   by_cases c2 : x8_1 < (l0.length : Int)
   ·rw [if_pos c2] at H; have c2b0 := dE c2; clear c2; replace H := iD H; obtain ⟨c3b0, H⟩ := H; replace H := iD H; obtain ⟨c4b0, H⟩ := H; replace H := bS H; obtain ⟨⟨t279, t280⟩, A5, H⟩ := H; replace H := bS H; obtain ⟨t281, A6, H⟩ := H; have H' := aM H; clear H; have p277 : 0 ≤ (x8_1 : Int) := dT aQ; have q277 : x8_1 < (l0.length : Int) := dT aQ; obtain ⟨ad277, e277, hx277_0, hx277_1⟩ := at_impl_Peg HR0.out x8_1 p277 q277
    cases e277
    replace hx277_0 := hC HB hx277_0; replace hx277_1 := hC HB hx277_1; replace p277 := eq_true p277; replace q277 := eq_true q277
    try go_wp2_with (first | ((with_reducible refine gate_dst (N := 5) rfl ?_); refine bV 5 (cs := #[.int .i64 0, .int .i64 0]) (t := 26) rfl rfl (by first | (go_simp; done) | (go_simp; rfl)) ?_; intro gb278 hg w7 hbox hb; have BK278 := hbox; have GW278 := gZ HB hg; have GE278 := gZ HB hg; replace HB := tB HB hb; clear hb hbox hg; have hcz8_0 := vZ0 BK278; have hcz8_1 := vZ1 BK278; have hfz8_0 := kF BK278.out 0; have hfz8_1 := kF BK278.out 1))
    have n0_ : Aside0 (((w7.setCell ⟨gb278, 0, none⟩ (.int .i64 ((rd_impl_Peg l0 x8_1).f0))).setCell ⟨gb278, 1, none⟩ (.int .i64 ((rd_impl_Peg l0 x8_1).f1))).heap[gb278]? = some (.cells #[.int .i64 ((rd_impl_Peg l0 x8_1).f0), .int .i64 ((rd_impl_Peg l0 x8_1).f1)] 26 (0, 0))) := ⟨fQ BK278⟩; have n1_ : Aside0 (Below w.heap.size w ((w7.setCell ⟨gb278, 0, none⟩ (.int .i64 ((rd_impl_Peg l0 x8_1).f0))).setCell ⟨gb278, 1, none⟩ (.int .i64 ((rd_impl_Peg l0 x8_1).f1)))) := ⟨bE⟩; (try clear BK278); (try clear HB)
    generalize ((w7.setCell ⟨gb278, 0, none⟩ (.int .i64 ((rd_impl_Peg l0 x8_1).f0))).setCell ⟨gb278, 1, none⟩ (.int .i64 ((rd_impl_Peg l0 x8_1).f1))) = w9 at n0_ n1_ ⊢
    have BK278 := n0_; have HB := n1_; clear n0_ n1_; replace BK278 := aM (kD BK278.out); replace HB := aM (pD HB.out)
    refine start_ (n := 9) (S := fun w' => w'.cell? ⟨gb278, 0, none⟩ = some (.int .i64 ((rd_impl_Peg l0 x8_1).f0)) ∧ w'.cell? ⟨gb278, 1, none⟩ = some (.int .i64 ((rd_impl_Peg l0 x8_1).f1))) (ds := []) (bA 9 0) kR rfl kR ⟨vZ0 BK278, vZ1 BK278⟩ (fun hHeld => ?_); refine with_tabW impl_twice.tab5 impl_twice.bits5 (fun HT_ HW_ => ?_)
    generalize w9.drew = w10 at BK278 HB hHeld ⊢
    refine pU 0 13 (bA 9 1) HT_ ?_; refine pU 2 15 (bA 9 5) HT_ ?_; refine pU 3 16 (bA 9 13) HT_ ?_; refine pU 4 17 (bA 9 29) HT_ ?_
    refine tU 1 14 (bA 9 31) HT_ HW_ hHeld ?_ (hy := Or.inl ⟨by rfl, by rintro w' ⟨s0, s1⟩; go_simp; with_reducible rfl⟩)
    refine oU 5 18 (bA 9 63) HT_ (fun K hK => ?_)
    refine goes_ Try.func108 kR rfl #[.slice (some ad277) l0.length c0, .int .i64 (wrap64 (x8_1 + 1))] (by rfl) rfl rfl sQ ?_
    with_reducible refine (impl_at.calls _ _ l0 (wrap64 (x8_1 + 1)) t279 t280 _ ?side1 ?side2 A5.out).mono ?_
    (case side1 => repeat (first | exact (Kd.C_below HR0.out HB.out) | (with_reducible refine cA ?_ _) | (with_reducible refine cN ?_ _) | (with_reducible refine cD ?_)))
    (case side2 => exact HC0.out)
    rintro e w11 ⟨rfl, hb⟩; refine ⟨_, rfl, ?_⟩; replace BK278 := bB BK278 hb; replace HB := tB HB hb; (try clear hb); (try clear hb2); (try clear hk); (try clear hi)
    refine hK.out _ _ ⟨vZ0 BK278, vZ1 BK278⟩ (fun hHeld => ?_)
    clear hK K
    refine nU ?_
    refine oU 6 19 (bA 9 127) HT_ (fun K hK => ?_)
    refine goes_ Try.func107 kR rfl #[.agg #[.int .i64 ((rd_impl_Peg l0 x8_1).f0), .int .i64 ((rd_impl_Peg l0 x8_1).f1)], .agg #[.int .i64 t279, .int .i64 t280]] (by rfl) rfl rfl sQ ?_
    with_reducible refine (impl_cross.calls ((rd_impl_Peg l0 x8_1).f0) ((rd_impl_Peg l0 x8_1).f1) t279 t280 t281 _ A6.out).mono ?_
    rintro e w12 ⟨rfl, hb⟩; refine ⟨_, rfl, ?_⟩; replace BK278 := bB BK278 hb; replace HB := tB HB hb; (try clear hb); (try clear hb2); (try clear hk); (try clear hi)
    refine hK.out _ _ ⟨vZ0 BK278, vZ1 BK278⟩ (fun hHeld => ?_)
    clear hK K
    refine nU ?_
    refine pU 7 20 (bA 9 255) HT_ ?_; refine pU 8 3 (bA 9 511) HT_ ?_
    refine done_ (done_of HT_.out kR) ?_
    try go_wp2
    go_roundg k1
    case measure => have := HK1.out; omega
    case rel => exact ⟨(wrap64 (x3_1 + t281)), (wrap64 (x8_1 + 1)), eQ, eQ, H', ⟨by have := HK1.out; omega⟩, ⟨bE⟩⟩
   ·rw [if_neg c2] at H; have c2b0 := decide_eq_false c2; clear c2; obtain rfl := Option.some.inj H; go_wp2
    go_ret
    exact ⟨wQ, bQ⟩

def impl_told.l0 : Nat → List (S_impl_Peg) → Int → Int → List (S_impl_Peg) → Int → Int → Option ((List (S_impl_Peg)))
 | 0, _, _, _, _, _, _ => none
 | k + 1, x0, x1, x2, x7, x13, x14 => if x14 < x13 then ((impl_at.f x0 (wrap64 (x1 + (wrap64 (x14 * x2))))).bind fun bt285 => (if x7.length < 8796093022208 then (impl_told.l0 k x0 x1 x2 (x7 ++ [(⟨bt285.1, bt285.2⟩ : S_impl_Peg)]) x13 (wrap64 (x14 + 1))) else (none))) else (some x7)
def impl_told.f (k : Nat) (l0 : List (S_impl_Peg)) (a1 : Int) (a2 : Int) : Option ((List (S_impl_Peg))) := if 0 ≤ (l0.length : Int) then (if ((l0.length : Int) : Int).toNat ≤ 17592186044416 then (impl_told.l0 k l0 a1 a2 (([] : List (S_impl_Peg))) (l0.length : Int) 0) else (none)) else (none)
theorem impl_told.mono_l : ∀ k, (∀ y0 y1 y2 y3 y4 y5, LeO (impl_told.l0 k y0 y1 y2 y3 y4 y5) (impl_told.l0 (k + 1) y0 y1 y2 y3 y4 y5))
 | 0 => fun _ _ _ _ _ _ r h => by simp [impl_told.l0] at h
 | k + 1 => by
  have ih0 := impl_told.mono_l k
  ·intro y0 y1 y2 y3 y4 y5
   unfold impl_told.l0
   repeat' first
   | (with_reducible exact ih0 _ _ _ _ _ _)
   | (with_reducible exact LeO.refl _)
   | (with_reducible exact LeO.none _)
   | (with_reducible refine LeO.ite ?_ ?_)
   | (with_reducible refine LeO.bind ?_ (fun _ => ?_))
   | exact ih0 _ _ _ _ _ _
   | exact LeO.none _
   | refine LeO.ite ?_ ?_
   | refine LeO.bind ?_ (fun _ => ?_)
theorem impl_told.mono : ∀ a0 a1 a2 k, LeO (impl_told.f k a0 a1 a2) (impl_told.f (k + 1) a0 a1 a2) := by
 intro a0 a1 a2 k
 have ih0 := impl_told.mono_l k
 unfold impl_told.f
 repeat' first | (with_reducible exact ih0 _ _ _ _ _ _) | (with_reducible exact LeO.refl _) | (with_reducible exact LeO.none _) | (with_reducible refine LeO.ite ?_ ?_) | (with_reducible refine LeO.bind ?_ (fun _ => ?_)) | exact ih0 _ _ _ _ _ _ | exact LeO.none _ | refine LeO.ite ?_ ?_ | refine LeO.bind ?_ (fun _ => ?_)
set_option maxHeartbeats 8000000 in
set_option maxRecDepth 100000 in
theorem impl_told.calls (k : Nat) (A0 : Option Addr) (c0 : Nat) (l0 : List (S_impl_Peg)) (a1 : Int) (a2 : Int) (r : List (S_impl_Peg)) (w : World) (hr0 : Kd.C kd_impl_Peg w A0 l0.length l0) (hc0 : l0.length ≤ c0) (h : impl_told.f k l0 a1 a2 = some r) :
  Calls Try.prog 66 #[.slice A0 l0.length c0, .int .i64 a1, .int .i64 a2] w fun e w' => ∃ v0_ : Value, e = .returned (v0_) ∧ Kd.R kd_impl_Peg 26 w' w.heap.size (fun _ => True) v0_ r ∧ Below w.heap.size w w' := by
 have HR0 := aM hr0; have HC0 := aM hc0; clear hr0 hc0; have HB := aM (Below.refl w.heap.size w)
 unfold impl_told.f at h; have H := h; clear h
 replace H := iN H; obtain ⟨c4, H⟩ := H; have c4b0 := eq_true c4; have c4b1 := dE c4; clear c4; replace H := iN H; obtain ⟨c5, H⟩ := H; have c5b0 := eq_true c5; have c5b1 := dE c5; clear c5; obtain ⟨y282, hy282⟩ : ∃ y_ : List (S_impl_Peg), y_ = (([] : List (S_impl_Peg))) := ⟨_, rfl⟩; rw [← hy282] at H; have Ny282 := aM hy282; clear hy282; have H' := aM H; clear H
 go_enter Try.func66, Try.ntmps66
 go_wp2_with (first | ((with_reducible refine gate_dst (N := 11) rfl ?_); refine Kd.R_makecap kd_impl_Peg _ 26 rfl (N := 11) rfl 29 _ _ rfl (l0.length : Int) rfl rfl Try.underlying29 (.agg #[(.int .i64 0), (.int .i64 0)]) 16 info26 rfl (by decide) (by omega) z_impl_Peg (ok := fun _ => True) (okp := fun _ => True) (kd_impl_Peg_mkM _ _ _ z_impl_Peg ) (fun _ hk => hk) trivial (dT aQ) (Nat.le_trans (Nat.mul_le_mul_right _ (dT aQ : (l0.length : Int).toNat ≤ 17592186044416)) (by omega)) (Below.refl _ _) (Nat.le_refl _) ?_; intro v283 w6 ho7 hb hg_ hnew_; clear hg_ hnew_; (first | rw [← Ny282.out] at ho7 | (simp only [Int.reduceToNat] at ho7; rw [← Ny282.out] at ho7)); have HO284 := aM (Kd.R_lower ho7 (pZ bQ)); replace HB := tB HB hb; clear hb ho7))
 go_loopg [7, 14] k (fun kq v7 v14 w' => ∃ (x7_1 : List (S_impl_Peg)) (x14_1 : Int), v14 = .int .i64 x14_1 ∧ Aside0 (impl_told.l0 kq l0 a1 a2 x7_1 (l0.length : Int) x14_1 = some r) ∧ Aside0 (kq ≤ k) ∧ Aside0 (Kd.R kd_impl_Peg 26 w' w.heap.size (fun _ => True) v7 x7_1) ∧ Aside0 (Below w.heap.size w w'))
 case atStart => exact ⟨(y282), (0), eQ, H', ⟨Nat.le_refl _⟩, ⟨by (with_reducible repeat (first | apply rA | apply rN | apply rD)); exact HO284.out⟩, ⟨bQ⟩⟩
 case round =>
  clear H'; (try clear c4); (try clear c4b0); (try clear c4b1); (try clear c5); (try clear c5b0); (try clear c5b1); obtain ⟨x7_1, x14_1, rfl, HA, HK1, HO_7, HB⟩ := hrel
  cases gk with
  | zero => exact absurd HA.out (by simp [impl_told.l0])
  | succ k1 =>
   have H := HA.out; clear HA
   simp only [impl_told.l0] at H
   by_cases c8 : x14_1 < (l0.length : Int)
   ·rw [if_pos c8] at H; have c8b0 := dE c8; clear c8; replace H := bS H; obtain ⟨⟨t285, t286⟩, A9, H⟩ := H; replace H := iN H; obtain ⟨c10, H⟩ := H; have LMc10 := aM c10; clear c10; obtain ⟨y287, hy287⟩ : ∃ y_ : List (S_impl_Peg), y_ = (x7_1 ++ [(⟨t285, t286⟩ : S_impl_Peg)]) := ⟨_, rfl⟩; rw [← hy287] at H; have Ny287 := aM hy287; clear hy287; have H' := aM H; clear H
    go_wp2_with (first | ((with_reducible refine gC (f := 108) rfl ?_); refine goesL_ (some 24) rfl rfl Try.func108 kR rfl #[.slice A0 l0.length c0, .int .i64 (wrap64 (a1 + (wrap64 (x14_1 * a2))))] rfl sQ ?_; (with_reducible refine (impl_at.calls _ _ l0 (wrap64 (a1 + (wrap64 (x14_1 * a2)))) t285 t286 _ ?side1 ?side2 A9.out).mono ?_); (case side1 => repeat (first | exact (Kd.C_below HR0.out HB.out) | (with_reducible refine cA ?_ _) | (with_reducible refine cN ?_ _) | (with_reducible refine cD ?_))); (case side2 => exact HC0.out); rintro e w11 ⟨rfl, hb⟩; refine ⟨_, rfl, ?_⟩; replace HO_7 := aM (Kd.R_below (by (with_reducible repeat (first | apply rA | apply rN | apply rD)); exact HO_7.out) hb); replace HB := tB HB hb; (try clear hb); (try clear hb2); (try clear hk); (try clear hi)) | ((with_reducible refine gate_builtin (b := .append) (xs := #[.tmp 17, .tmp 25]) rfl ?_); at_builtin; refine Kd.R_append kd_impl_Peg (w0 := w) w.heap.size rfl (.tmp 17) (.tmp 25) 29 26 (.agg #[(.int .i64 0), (.int .i64 0)]) 16 rfl Try.underlying29 info26 rfl (by decide) (by omega) u7 x7_1 (⟨t285, t286⟩ : S_impl_Peg) [.int .i64 t285, .int .i64 t286] (fun _ => True) (fun _ => False) rfl rfl ?aP (fun _ hk => hk.elim) ?aF ?aO ?aB ?aS ?aL ?_; (case aP => exact kd_impl_Peg_mkM _ _ _ (⟨t285, t286⟩ : S_impl_Peg)); (case aB => exact bQ); (case aF => exact (fun _ _ => trivial)); (case aO => exact (by (with_reducible repeat (first | apply rA | apply rN | apply rD)); exact HO_7.out)); (case aS => exact (pZ bQ)); (case aL => have := LMc10.out; omega); intro v288 w12 ho hb hg hat; rw [← Ny287.out] at ho; have n0_ := aM (hb); have n1_ := aM (ho); clear HB; clear HO_7; have HB := n0_; have HO289 := n1_; clear n0_ n1_; clear ho hb hg hat))
    go_roundg k1
    case measure => have := HK1.out; omega
    case rel => exact ⟨(y287), (wrap64 (x14_1 + 1)), eQ, H', ⟨by have := HK1.out; omega⟩, ⟨by (with_reducible repeat (first | apply rA | apply rN | apply rD)); exact HO289.out⟩, ⟨bQ⟩⟩
   ·rw [if_neg c8] at H; have c8b0 := decide_eq_false c8; clear c8; obtain rfl := Option.some.inj H; go_wp2
    go_ret
    exact ⟨_, by first | rfl | (simp [errW_none, errW_some] <;> rfl) | (simp [*, errW_none, errW_some] <;> rfl), by (with_reducible repeat (first | apply rA | apply rN | apply rD)); exact HO_7.out, bQ⟩
def cmp_Or_int.l0 : Nat → Int → List Int → Int → Int → Option (Int)
 | 0, _, _, _, _ => none
 | k + 1, x3, x6, x7, x8 => if x8 < x7 then (if 0 ≤ x8 then (if x8 < (x6.length : Int) then (if (rd x6 x8) = x3 then (cmp_Or_int.l0 k x3 x6 x7 (wrap64 (x8 + 1))) else (some (rd x6 x8))) else (none)) else (none)) else (some x3)
def cmp_Or_int.f (k : Nat) (l0 : List Int) : Option (Int) := cmp_Or_int.l0 k 0 l0 (l0.length : Int) 0
theorem cmp_Or_int.mono_l : ∀ k, (∀ y0 y1 y2 y3, LeO (cmp_Or_int.l0 k y0 y1 y2 y3) (cmp_Or_int.l0 (k + 1) y0 y1 y2 y3))
 | 0 => fun _ _ _ _ r h => by simp [cmp_Or_int.l0] at h
 | k + 1 => by
  have ih0 := cmp_Or_int.mono_l k
  ·intro y0 y1 y2 y3
   unfold cmp_Or_int.l0
   repeat' first
   | (with_reducible exact ih0 _ _ _ _)
   | (with_reducible exact LeO.refl _)
   | (with_reducible exact LeO.none _)
   | (with_reducible refine LeO.ite ?_ ?_)
   | (with_reducible refine LeO.bind ?_ (fun _ => ?_))
   | exact ih0 _ _ _ _
   | exact LeO.none _
   | refine LeO.ite ?_ ?_
   | refine LeO.bind ?_ (fun _ => ?_)
theorem cmp_Or_int.mono : ∀ a0 k, LeO (cmp_Or_int.f k a0) (cmp_Or_int.f (k + 1) a0) := by
 intro a0 k
 have ih0 := cmp_Or_int.mono_l k
 unfold cmp_Or_int.f
 repeat' first | (with_reducible exact ih0 _ _ _ _) | (with_reducible exact LeO.refl _) | (with_reducible exact LeO.none _) | (with_reducible refine LeO.ite ?_ ?_) | (with_reducible refine LeO.bind ?_ (fun _ => ?_)) | exact ih0 _ _ _ _ | exact LeO.none _ | refine LeO.ite ?_ ?_ | refine LeO.bind ?_ (fun _ => ?_)
set_option maxHeartbeats 8000000 in
set_option maxRecDepth 100000 in
theorem cmp_Or_int.calls (k : Nat) (A0 : Option Addr) (c0 : Nat) (l0 : List Int) (r : Int) (w : World) (hr0 : Kd.C (Kd.int .i64) w A0 l0.length l0) (hc0 : l0.length ≤ c0) (h : cmp_Or_int.f k l0 = some r) :
  Calls Try.prog 145 #[.slice A0 l0.length c0] w fun e w' => e = .returned (.int .i64 r) ∧ Drawn0 w w' := by
 have HR0 := aM hr0; have HC0 := aM hc0; clear hr0 hc0
 unfold cmp_Or_int.f at h; have H := h; clear h
 have H' := aM H; clear H
 go_enter Try.func145, Try.ntmps145
 go_wp2
 go_loopg [8] k (fun kq v8 w' => ∃ (x8_1 : Int), v8 = .int .i64 x8_1 ∧ Aside0 (cmp_Or_int.l0 kq 0 l0 (l0.length : Int) x8_1 = some r) ∧ Aside0 (kq ≤ k) ∧ Drawn0 w w')
 case atStart => exact ⟨(0), eQ, H', ⟨Nat.le_refl _⟩, dQ⟩
 case round =>
  clear H'; obtain ⟨x8_1, rfl, HA, HK1, ⟨m1, rfl⟩⟩ := hrel
  cases gk with
  | zero => exact absurd HA.out (by simp [cmp_Or_int.l0])
  | succ k1 =>
   have H := HA.out; clear HA
   simp only [cmp_Or_int.l0] at H
   by_cases c2 : x8_1 < (l0.length : Int)
   ·rw [if_pos c2] at H; have c2b0 := dE c2; clear c2; replace H := iD H; obtain ⟨c3b0, H⟩ := H; replace H := iD H; obtain ⟨c4b0, H⟩ := H
    by_cases c5 : (rd l0 x8_1) = 0
    ·rw [if_pos c5] at H; have c5b0 : ((rd l0 x8_1) == 0) = true := beq_iff_eq.mpr c5; have c5b1 : ((rd l0 x8_1) != 0) = false := bne_eq_false_iff_eq.mpr c5; clear c5; have H' := aM H; clear H; have p290 : 0 ≤ (x8_1 : Int) := dT aQ; have q290 : x8_1 < (l0.length : Int) := dT aQ; obtain ⟨ad290, e290, hx290_0⟩ := Kd.at_int HR0.out x8_1 p290 q290
     cases e290
     replace p290 := eq_true p290; replace q290 := eq_true q290; go_wp2
     go_roundg k1
     case measure => have := HK1.out; omega
     case rel => exact ⟨(wrap64 (x8_1 + 1)), eQ, H', ⟨by have := HK1.out; omega⟩, dQ⟩
    ·rw [if_neg c5] at H; have c5b0 : ((rd l0 x8_1) == 0) = false := beq_eq_false_iff_ne.mpr c5; have c5b1 : ((rd l0 x8_1) != 0) = true := bne_iff_ne.mpr c5; obtain rfl := Option.some.inj H; have p290 : 0 ≤ (x8_1 : Int) := dT aQ; have q290 : x8_1 < (l0.length : Int) := dT aQ; obtain ⟨ad290, e290, hx290_0⟩ := Kd.at_int HR0.out x8_1 p290 q290
     cases e290
     replace p290 := eq_true p290; replace q290 := eq_true q290; go_wp2
     go_ret
     exact ⟨eQ, dQ⟩
   ·rw [if_neg c2] at H; have c2b0 := decide_eq_false c2; clear c2; obtain rfl := Option.some.inj H; go_wp2
    go_ret
    exact ⟨eQ, dQ⟩

def cmp_isNaN_int.f (a0 : Int) : Option (Bool) := some (a0 != a0)
set_option maxHeartbeats 8000000 in
set_option maxRecDepth 100000 in
theorem cmp_isNaN_int.calls (a0 : Int) (r : Bool) (w : World) (h : cmp_isNaN_int.f a0 = some r) :
  Calls Try.prog 147 #[.int .i64 a0] w fun e w' => e = .returned (.bool r) ∧ Drawn0 w w' := by
 unfold cmp_isNaN_int.f at h; have H := h; clear h
 obtain rfl := Option.some.inj H
 go_enter Try.func147, Try.ntmps147
 go_wp2
 go_ret
 exact ⟨eQ, dQ⟩

def cmp_Compare_int.f (a0 : Int) (a1 : Int) : Option (Int) := (cmp_isNaN_int.f a0).bind fun t291 => ((cmp_isNaN_int.f a1).bind fun t292 => (if t291 = true then (if t292 = true then (some 0) else (some (-1))) else (if t292 = true then (some 1) else (if a0 < a1 then (some (-1)) else (if a0 > a1 then (some 1) else (some 0))))))
set_option maxHeartbeats 8000000 in
set_option maxRecDepth 100000 in
theorem cmp_Compare_int.calls (a0 : Int) (a1 : Int) (r : Int) (w : World) (h : cmp_Compare_int.f a0 a1 = some r) :
  Calls Try.prog 146 #[.int .i64 a0, .int .i64 a1] w fun e w' => e = .returned (.int .i64 r) ∧ Drawn0 w w' := by
 unfold cmp_Compare_int.f at h; have H := h; clear h
 replace H := bS H; obtain ⟨t291, A3, H⟩ := H; replace H := bS H; obtain ⟨t292, A4, H⟩ := H
 by_cases c5 : t291 = true
 ·subst c5; replace H := iT H
  by_cases c6 : t292 = true
  ·subst c6; replace H := iT H; obtain rfl := Option.some.inj H
   go_enter Try.func146, Try.ntmps146
   go_wp2_with (first | ((with_reducible refine gC (f := 147) rfl ?_); refine goesL_ (some 8) rfl rfl Try.func147 kR rfl #[.int .i64 a0] rfl sQ ?_; (with_reducible refine (cmp_isNaN_int.calls a0 true _ A3.out).mono ?_); rintro e w' ⟨rfl, ⟨nd, rfl⟩⟩; refine ⟨_, rfl, ?_⟩) | ((with_reducible refine gC (f := 147) rfl ?_); refine goesL_ (some 10) rfl rfl Try.func147 kR rfl #[.int .i64 a1] rfl sQ ?_; (with_reducible refine (cmp_isNaN_int.calls a1 true _ A4.out).mono ?_); rintro e w' ⟨rfl, ⟨nd, rfl⟩⟩; refine ⟨_, rfl, ?_⟩))
   go_ret
   exact ⟨eQ, dQ⟩
  ·replace c6 := Bool.eq_false_iff.mpr c6; subst c6; replace H := iF H; obtain rfl := Option.some.inj H
   go_enter Try.func146, Try.ntmps146
   go_wp2_with (first | ((with_reducible refine gC (f := 147) rfl ?_); refine goesL_ (some 8) rfl rfl Try.func147 kR rfl #[.int .i64 a0] rfl sQ ?_; (with_reducible refine (cmp_isNaN_int.calls a0 true _ A3.out).mono ?_); rintro e w' ⟨rfl, ⟨nd, rfl⟩⟩; refine ⟨_, rfl, ?_⟩) | ((with_reducible refine gC (f := 147) rfl ?_); refine goesL_ (some 10) rfl rfl Try.func147 kR rfl #[.int .i64 a1] rfl sQ ?_; (with_reducible refine (cmp_isNaN_int.calls a1 false _ A4.out).mono ?_); rintro e w' ⟨rfl, ⟨nd, rfl⟩⟩; refine ⟨_, rfl, ?_⟩))
   go_ret
   exact ⟨eQ, dQ⟩
 ·replace c5 := Bool.eq_false_iff.mpr c5; subst c5; replace H := iF H
  by_cases c7 : t292 = true
  ·subst c7; replace H := iT H; obtain rfl := Option.some.inj H
   go_enter Try.func146, Try.ntmps146
   go_wp2_with (first | ((with_reducible refine gC (f := 147) rfl ?_); refine goesL_ (some 8) rfl rfl Try.func147 kR rfl #[.int .i64 a0] rfl sQ ?_; (with_reducible refine (cmp_isNaN_int.calls a0 false _ A3.out).mono ?_); rintro e w' ⟨rfl, ⟨nd, rfl⟩⟩; refine ⟨_, rfl, ?_⟩) | ((with_reducible refine gC (f := 147) rfl ?_); refine goesL_ (some 10) rfl rfl Try.func147 kR rfl #[.int .i64 a1] rfl sQ ?_; (with_reducible refine (cmp_isNaN_int.calls a1 true _ A4.out).mono ?_); rintro e w' ⟨rfl, ⟨nd, rfl⟩⟩; refine ⟨_, rfl, ?_⟩))
   go_ret
   exact ⟨eQ, dQ⟩
  ·replace c7 := Bool.eq_false_iff.mpr c7; subst c7; replace H := iF H
   by_cases c8 : a0 < a1
   ·rw [if_pos c8] at H; have c8b0 := dE c8; clear c8; obtain rfl := Option.some.inj H
    go_enter Try.func146, Try.ntmps146
    go_wp2_with (first | ((with_reducible refine gC (f := 147) rfl ?_); refine goesL_ (some 8) rfl rfl Try.func147 kR rfl #[.int .i64 a0] rfl sQ ?_; (with_reducible refine (cmp_isNaN_int.calls a0 false _ A3.out).mono ?_); rintro e w' ⟨rfl, ⟨nd, rfl⟩⟩; refine ⟨_, rfl, ?_⟩) | ((with_reducible refine gC (f := 147) rfl ?_); refine goesL_ (some 10) rfl rfl Try.func147 kR rfl #[.int .i64 a1] rfl sQ ?_; (with_reducible refine (cmp_isNaN_int.calls a1 false _ A4.out).mono ?_); rintro e w' ⟨rfl, ⟨nd, rfl⟩⟩; refine ⟨_, rfl, ?_⟩))
    go_ret
    exact ⟨eQ, dQ⟩
   ·rw [if_neg c8] at H; have c8b0 := decide_eq_false c8; clear c8
    by_cases c9 : a0 > a1
    ·rw [if_pos c9] at H; have c9b0 := dE c9; clear c9; obtain rfl := Option.some.inj H
     go_enter Try.func146, Try.ntmps146
     go_wp2_with (first | ((with_reducible refine gC (f := 147) rfl ?_); refine goesL_ (some 8) rfl rfl Try.func147 kR rfl #[.int .i64 a0] rfl sQ ?_; (with_reducible refine (cmp_isNaN_int.calls a0 false _ A3.out).mono ?_); rintro e w' ⟨rfl, ⟨nd, rfl⟩⟩; refine ⟨_, rfl, ?_⟩) | ((with_reducible refine gC (f := 147) rfl ?_); refine goesL_ (some 10) rfl rfl Try.func147 kR rfl #[.int .i64 a1] rfl sQ ?_; (with_reducible refine (cmp_isNaN_int.calls a1 false _ A4.out).mono ?_); rintro e w' ⟨rfl, ⟨nd, rfl⟩⟩; refine ⟨_, rfl, ?_⟩))
     go_ret
     exact ⟨eQ, dQ⟩
    ·rw [if_neg c9] at H; have c9b0 := decide_eq_false c9; clear c9; obtain rfl := Option.some.inj H
     go_enter Try.func146, Try.ntmps146
     go_wp2_with (first | ((with_reducible refine gC (f := 147) rfl ?_); refine goesL_ (some 8) rfl rfl Try.func147 kR rfl #[.int .i64 a0] rfl sQ ?_; (with_reducible refine (cmp_isNaN_int.calls a0 false _ A3.out).mono ?_); rintro e w' ⟨rfl, ⟨nd, rfl⟩⟩; refine ⟨_, rfl, ?_⟩) | ((with_reducible refine gC (f := 147) rfl ?_); refine goesL_ (some 10) rfl rfl Try.func147 kR rfl #[.int .i64 a1] rfl sQ ?_; (with_reducible refine (cmp_isNaN_int.calls a1 false _ A4.out).mono ?_); rintro e w' ⟨rfl, ⟨nd, rfl⟩⟩; refine ⟨_, rfl, ?_⟩))
     go_ret
     exact ⟨eQ, dQ⟩

end Go.Proofs.Ytklhakfmegbobaa.X
