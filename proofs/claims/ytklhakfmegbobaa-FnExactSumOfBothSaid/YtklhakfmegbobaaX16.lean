-- thin
-- short
-- compact
import Derived.Test.YtklhakfmegbobaaXA
import Derived.Test.YtklhakfmegbobaaX0
import Derived.Test.YtklhakfmegbobaaX1
import Derived.Test.YtklhakfmegbobaaX12
import Derived.Test.YtklhakfmegbobaaX15
namespace Go.Proofs.Ytklhakfmegbobaa.X
open Go.RowKit Go.Proofs.Ytklhakfmegbobaa.XW Go.Proofs.YtklhakfmegbobaaW.PrintWords Go.Proofs.YtklhakfmegbobaaW.PrintLast Go.Proofs.YtklhakfmegbobaaW.PrintMore
attribute [local go_sem] max2_int min2_int max_two min_two max_three min_three max_four min_four   -- for this text's walks alone
set_option linter.unusedVariables false
set_option linter.unusedSimpArgs false

attribute [local go_sem high] eqA26
def slices_Index_impl_Peg.l0 : Nat → List (S_impl_Peg) → Int → Int → Int → Int → Option (Int)
 | 0, _, _, _, _, _ => none
 | k + 1, x0, x7, x8, x321000, x321001 => if x8 < x7 then (if 0 ≤ x8 then (if x8 < (x0.length : Int) then (if (x321000 == ((rd_impl_Peg x0 x8).f0) && (x321001 == ((rd_impl_Peg x0 x8).f1))) = true then (some x8) else (slices_Index_impl_Peg.l0 k x0 x7 (wrap64 (x8 + 1)) x321000 x321001)) else (none)) else (none)) else (some (-1))
def slices_Index_impl_Peg.f (k : Nat) (l0 : List (S_impl_Peg)) (a1_0 : Int) (a1_1 : Int) : Option (Int) := slices_Index_impl_Peg.l0 k l0 (l0.length : Int) 0 a1_0 a1_1
theorem slices_Index_impl_Peg.mono_l : ∀ k, (∀ y0 y1 y2 y3 y4, LeO (slices_Index_impl_Peg.l0 k y0 y1 y2 y3 y4) (slices_Index_impl_Peg.l0 (k + 1) y0 y1 y2 y3 y4))
 | 0 => fun _ _ _ _ _ r h => by simp [slices_Index_impl_Peg.l0] at h
 | k + 1 => by
  have ih0 := slices_Index_impl_Peg.mono_l k
  ·intro y0 y1 y2 y3 y4
   unfold slices_Index_impl_Peg.l0
   repeat' first
   | (with_reducible exact ih0 _ _ _ _ _)
   | (with_reducible exact LeO.refl _)
   | (with_reducible exact LeO.none _)
   | (with_reducible refine LeO.ite ?_ ?_)
   | (with_reducible refine LeO.bind ?_ (fun _ => ?_))
   | exact ih0 _ _ _ _ _
   | exact LeO.none _
   | refine LeO.ite ?_ ?_
   | refine LeO.bind ?_ (fun _ => ?_)
theorem slices_Index_impl_Peg.mono : ∀ a0 a1 a2 k, LeO (slices_Index_impl_Peg.f k a0 a1 a2) (slices_Index_impl_Peg.f (k + 1) a0 a1 a2) := by
 intro a0 a1 a2 k
 have ih0 := slices_Index_impl_Peg.mono_l k
 unfold slices_Index_impl_Peg.f
 repeat' first | (with_reducible exact ih0 _ _ _ _ _) | (with_reducible exact LeO.refl _) | (with_reducible exact LeO.none _) | (with_reducible refine LeO.ite ?_ ?_) | (with_reducible refine LeO.bind ?_ (fun _ => ?_)) | exact ih0 _ _ _ _ _ | exact LeO.none _ | refine LeO.ite ?_ ?_ | refine LeO.bind ?_ (fun _ => ?_)
set_option maxHeartbeats 8000000 in
set_option maxRecDepth 100000 in
theorem slices_Index_impl_Peg.calls (k : Nat) (A0 : Option Addr) (c0 : Nat) (l0 : List (S_impl_Peg)) (a1_0 : Int) (a1_1 : Int) (r : Int) (w : World) (hr0 : Kd.C kd_impl_Peg w A0 l0.length l0) (hc0 : l0.length ≤ c0) (h : slices_Index_impl_Peg.f k l0 a1_0 a1_1 = some r) :
  Calls Try.prog 137 #[.slice A0 l0.length c0, .agg #[.int .i64 a1_0, .int .i64 a1_1]] w fun e w' => e = .returned (.int .i64 r) ∧ Below w.heap.size w w' := by
 have hu26 := Try.underlying26; have HR0 := aM hr0; have HC0 := aM hc0; clear hr0 hc0; have HB := aM (Below.refl w.heap.size w)
 unfold slices_Index_impl_Peg.f at h; have H := h; clear h
 have H' := aM H; clear H
 go_enter Try.func137, Try.ntmps137
 go_wp2_with (first | ((with_reducible refine gate_dst (N := 3) rfl ?_); refine bV 3 (cs := #[.int .i64 a1_0, .int .i64 a1_1]) (t := 26) rfl rfl (by first | (go_simp; done) | (go_simp; rfl)) ?_; intro gb320 hg w3 hbox hb; have BK320 := hbox; have GW320 := gZ HB hg; have GE320 := gZ HB hg; replace HB := tB HB hb; clear hb hbox hg))
 repeat (go_quiet (first | ((with_reducible refine gate_dst (N := 3) rfl ?_); refine bV 3 (cs := #[.int .i64 a1_0, .int .i64 a1_1]) (t := 26) rfl rfl (by first | (go_simp; done) | (go_simp; rfl)) ?_; intro gb320 hg w3 hbox hb; have n0_ := tB HB hb; have n1_ := hbox; have n2_ := gZ HB hg; have n3_ := gZ HB hg; clear HB; have HB := n0_; have BK320 := n1_; have GW320 := n2_; have GE320 := n3_; clear n0_ n1_ n2_ n3_; clear hb hbox hg)); try go_wp2_with (first | ((with_reducible refine gate_dst (N := 3) rfl ?_); refine bV 3 (cs := #[.int .i64 a1_0, .int .i64 a1_1]) (t := 26) rfl rfl (by first | (go_simp; done) | (go_simp; rfl)) ?_; intro gb320 hg w3 hbox hb; have n0_ := tB HB hb; have n1_ := hbox; have n2_ := gZ HB hg; have n3_ := gZ HB hg; clear HB; have HB := n0_; have BK320 := n1_; have GW320 := n2_; have GE320 := n3_; clear n0_ n1_ n2_ n3_; clear hb hbox hg)))
 go_loopg [8] k (fun kq v8 w' => ∃ (x8_1 : Int), v8 = .int .i64 x8_1 ∧ Aside0 (slices_Index_impl_Peg.l0 kq l0 (l0.length : Int) x8_1 a1_0 a1_1 = some r) ∧ Aside0 (kq ≤ k) ∧ Aside0 (w'.heap[gb320]? = some (.cells #[.int .i64 a1_0, .int .i64 a1_1] 26 (0, 0))) ∧ Aside0 (Below w.heap.size w w'))
 case atStart => exact ⟨(0), eQ, H', ⟨Nat.le_refl _⟩, ⟨gQ BK320⟩, ⟨bE⟩⟩
 case round =>
  clear H'; obtain ⟨x8_1, rfl, HA, HK1, BK320, HB⟩ := hrel
  cases gk with
  | zero => exact absurd HA.out (by simp [slices_Index_impl_Peg.l0])
  | succ k1 =>
   have H := HA.out; clear HA
   simp only [slices_Index_impl_Peg.l0] at H
   by_cases c4 : x8_1 < (l0.length : Int)
   ·rw [if_pos c4] at H; have c4b0 := dE c4; clear c4; replace H := iD H; obtain ⟨c5b0, H⟩ := H; replace H := iD H; obtain ⟨c6b0, H⟩ := H
    by_cases c7 : (a1_0 == ((rd_impl_Peg l0 x8_1).f0) && (a1_1 == ((rd_impl_Peg l0 x8_1).f1))) = true
    ·rw [if_pos c7] at H; have c7b0 := c7
     (try (have c7b1 : decide (a1_0 = ((rd_impl_Peg l0 x8_1).f0) && (a1_1 == ((rd_impl_Peg l0 x8_1).f1))) = true := by simpa using c7))
     (try (have c7b2 : (a1_0 == ((rd_impl_Peg l0 x8_1).f0) && (a1_1 == ((rd_impl_Peg l0 x8_1).f1))) = true := by simpa using c7))
     clear c7; obtain rfl := Option.some.inj H; have hcz8_0 : wr.cell? ⟨gb320, 0, none⟩ = some (.int .i64 a1_0) := vZ0 BK320; have hcz8_1 : wr.cell? ⟨gb320, 1, none⟩ = some (.int .i64 a1_1) := vZ1 BK320; have hfz8_0 := kF BK320.out 0; have hfz8_1 := kF BK320.out 1; have p321 : 0 ≤ (x8_1 : Int) := dT aQ; have q321 : x8_1 < (l0.length : Int) := dT aQ; obtain ⟨ad321, e321, hx321_0, hx321_1⟩ := at_impl_Peg HR0.out x8_1 p321 q321
     cases e321
     replace hx321_0 := hC HB hx321_0; replace hx321_1 := hC HB hx321_1; replace p321 := eq_true p321; replace q321 := eq_true q321; go_wp2
     repeat (go_quiet (fail); try go_wp2)
     go_ret
     exact ⟨wQ, bE⟩
    ·rw [if_neg c7] at H; have c7b0 : (a1_0 == ((rd_impl_Peg l0 x8_1).f0) && (a1_1 == ((rd_impl_Peg l0 x8_1).f1))) = false := by simpa using c7
     (try (have c7b1 : decide (a1_0 = ((rd_impl_Peg l0 x8_1).f0) && (a1_1 == ((rd_impl_Peg l0 x8_1).f1))) = false := by simpa using c7))
     (try (have c7b2 : (a1_0 == ((rd_impl_Peg l0 x8_1).f0) && (a1_1 == ((rd_impl_Peg l0 x8_1).f1))) = false := by simpa using c7))
     (try (have c7b3 : ¬ (a1_0 = ((rd_impl_Peg l0 x8_1).f0) && (a1_1 == ((rd_impl_Peg l0 x8_1).f1))) := by simpa using c7))
     clear c7; have H' := aM H; clear H; have hcz9_0 : wr.cell? ⟨gb320, 0, none⟩ = some (.int .i64 a1_0) := vZ0 BK320; have hcz9_1 : wr.cell? ⟨gb320, 1, none⟩ = some (.int .i64 a1_1) := vZ1 BK320; have hfz9_0 := kF BK320.out 0; have hfz9_1 := kF BK320.out 1; have p321 : 0 ≤ (x8_1 : Int) := dT aQ; have q321 : x8_1 < (l0.length : Int) := dT aQ; obtain ⟨ad321, e321, hx321_0, hx321_1⟩ := at_impl_Peg HR0.out x8_1 p321 q321
     cases e321
     replace hx321_0 := hC HB hx321_0; replace hx321_1 := hC HB hx321_1; replace p321 := eq_true p321; replace q321 := eq_true q321; go_wp2
     repeat (go_quiet (fail); try go_wp2)
     go_roundg k1
     case measure => have := HK1.out; omega
     case rel => exact ⟨(wrap64 (x8_1 + 1)), eQ, H', ⟨by have := HK1.out; omega⟩, ⟨gQ BK320⟩, ⟨bE⟩⟩
   ·rw [if_neg c4] at H; have c4b0 := decide_eq_false c4; clear c4; obtain rfl := Option.some.inj H; go_wp2
    repeat (go_quiet (fail); try go_wp2)
    go_ret
    exact ⟨wQ, bE⟩

def slices_Contains_impl_Peg.f (k : Nat) (l0 : List (S_impl_Peg)) (a1_0 : Int) (a1_1 : Int) : Option (Bool) := (slices_Index_impl_Peg.f k l0 a1_0 a1_1).bind fun t323 => (some (decide (t323 ≥ 0)))
theorem slices_Contains_impl_Peg.mono : ∀ a0 a1 a2 k, LeO (slices_Contains_impl_Peg.f k a0 a1 a2) (slices_Contains_impl_Peg.f (k + 1) a0 a1 a2) := by
 intro a0 a1 a2 k
 unfold slices_Contains_impl_Peg.f
 repeat' first | (with_reducible exact slices_Index_impl_Peg.mono _ _ _ _) | (with_reducible exact LeO.refl _) | (with_reducible exact LeO.none _) | (with_reducible refine LeO.ite ?_ ?_) | (with_reducible refine LeO.bind ?_ (fun _ => ?_)) | exact slices_Index_impl_Peg.mono _ _ _ _ | exact LeO.none _ | refine LeO.ite ?_ ?_ | refine LeO.bind ?_ (fun _ => ?_)
set_option maxHeartbeats 8000000 in
set_option maxRecDepth 100000 in
theorem slices_Contains_impl_Peg.calls (k : Nat) (A0 : Option Addr) (c0 : Nat) (l0 : List (S_impl_Peg)) (a1_0 : Int) (a1_1 : Int) (r : Bool) (w : World) (hr0 : Kd.C kd_impl_Peg w A0 l0.length l0) (hc0 : l0.length ≤ c0) (h : slices_Contains_impl_Peg.f k l0 a1_0 a1_1 = some r) :
  Calls Try.prog 110 #[.slice A0 l0.length c0, .agg #[.int .i64 a1_0, .int .i64 a1_1]] w fun e w' => e = .returned (.bool r) ∧ Below w.heap.size w w' := by
 have hu26 := Try.underlying26; have HR0 := aM hr0; have HC0 := aM hc0; clear hr0 hc0; have HB := aM (Below.refl w.heap.size w)
 unfold slices_Contains_impl_Peg.f at h; have H := h; clear h
 replace H := bS H; obtain ⟨t323, A3, H⟩ := H; obtain rfl := Option.some.inj H
 go_enter Try.func110, Try.ntmps110
 go_wp2_with (first | ((with_reducible refine gate_dst (N := 3) rfl ?_); refine bV 3 (cs := #[.int .i64 a1_0, .int .i64 a1_1]) (t := 26) rfl rfl (by first | (go_simp; done) | (go_simp; rfl)) ?_; intro gb322 hg w4 hbox hb; have BK322 := hbox; have GW322 := gZ HB hg; have GE322 := gZ HB hg; replace HB := tB HB hb; clear hb hbox hg; have hcz5_0 := vZ0 BK322; have hcz5_1 := vZ1 BK322; have hfz5_0 := kF BK322.out 0; have hfz5_1 := kF BK322.out 1) | ((with_reducible refine gC (f := 137) rfl ?_); refine goesL_ (some 7) rfl rfl Try.func137 kR rfl #[.slice A0 l0.length c0, .agg #[.int .i64 a1_0, .int .i64 a1_1]] rfl sQ ?_; (with_reducible refine (slices_Index_impl_Peg.calls k _ _ l0 a1_0 a1_1 t323 _ ?side1 ?side2 A3.out).mono ?_); (case side1 => repeat (first | exact (Kd.C_below HR0.out HB.out) | (with_reducible refine cA ?_ _) | (with_reducible refine cN ?_ _) | (with_reducible refine cD ?_))); (case side2 => exact HC0.out); rintro e w6 ⟨rfl, hb⟩; refine ⟨_, rfl, ?_⟩; replace BK322 := bB BK322 hb; replace HB := tB HB hb; (try clear hb); (try clear hb2); (try clear hk); (try clear hi)))
 go_ret
 exact ⟨wQ, bE⟩

def impl_Peg_less.f (a0_0 : Int) (a0_1 : Int) (a1_0 : Int) (a1_1 : Int) : Option (Int × Int) := some (wrap64 (a0_0 - a1_0), wrap64 (a0_1 - a1_1))
set_option maxHeartbeats 8000000 in
set_option maxRecDepth 100000 in
theorem impl_Peg_less.calls (a0_0 : Int) (a0_1 : Int) (a1_0 : Int) (a1_1 : Int) (r1 : Int) (r2 : Int) (w : World) (h : impl_Peg_less.f a0_0 a0_1 a1_0 a1_1 = some (r1, r2)) :
  Calls Try.prog 85 #[.agg #[.int .i64 a0_0, .int .i64 a0_1], .agg #[.int .i64 a1_0, .int .i64 a1_1]] w fun e w' => e = .returned (.agg #[.int .i64 r1, .int .i64 r2]) ∧ Below w.heap.size w w' := by
 have hu26 := Try.underlying26; have HB := aM (Below.refl w.heap.size w)
 unfold impl_Peg_less.f at h; have H := h; clear h
 simp only [Option.some.injEq, Prod.mk.injEq] at H
 obtain ⟨rfl, rfl⟩ := H
 go_enter Try.func85, Try.ntmps85
 go_wp2_with (first | ((with_reducible refine gate_dst (N := 2) rfl ?_); refine bV 2 (cs := #[.int .i64 a0_0, .int .i64 a0_1]) (t := 26) rfl rfl (by first | (go_simp; done) | (go_simp; rfl)) ?_; intro gb324 hg w3 hbox hb; have BK324 := hbox; have GW324 := gZ HB hg; have GE324 := gZ HB hg; replace HB := tB HB hb; clear hb hbox hg) | ((with_reducible refine gate_dst (N := 3) rfl ?_); refine bV 3 (cs := #[.int .i64 a1_0, .int .i64 a1_1]) (t := 26) rfl rfl (by first | (go_simp; done) | (go_simp; rfl)) ?_; intro gb325 hg w4 hbox hb; have BK325 := hbox; have GW325 := gZ HB hg; have GE325 := gZ HB hg; have NB324_325 := nG BK324 hg; have NB325_324 := nH BK324 hg; replace BK324 := bB BK324 hb; replace HB := tB HB hb; clear hb hbox hg) | ((with_reducible refine gate_dst (N := 4) rfl ?_); refine bV 4 (cs := #[.int .i64 0, .int .i64 0]) (t := 26) rfl rfl (by first | (go_simp; done) | (go_simp; rfl)) ?_; intro gb326 hg w5 hbox hb; have BK326 := hbox; have GW326 := gZ HB hg; have GE326 := gZ HB hg; have NB324_326 := nG BK324 hg; have NB326_324 := nH BK324 hg; have NB325_326 := nG BK325 hg; have NB326_325 := nH BK325 hg; replace BK324 := bB BK324 hb; replace BK325 := bB BK325 hb; replace HB := tB HB hb; clear hb hbox hg; have hnb6 := NB324_325.out; have hnc6 := NB325_324.out; have hnb7 := NB324_326.out; have hnc7 := NB326_324.out; have hcz8_0 := vZ0 BK324; have hcz8_1 := vZ1 BK324; have hfz8_0 := kF BK324.out 0; have hfz8_1 := kF BK324.out 1; have hnb9 := NB325_326.out; have hnc9 := NB326_325.out; have hcz10_0 := vZ0 BK325; have hcz10_1 := vZ1 BK325; have hfz10_0 := kF BK325.out 0; have hfz10_1 := kF BK325.out 1; have hcz11_0 := vZ0 BK326; have hcz11_1 := vZ1 BK326; have hfz11_0 := kF BK326.out 0; have hfz11_1 := kF BK326.out 1))
 refine bodyPost_ret (results_cell_row rfl _ _ gb326 26 #[.int .i64 (wrap64 (a0_0 - a1_0)), .int .i64 (wrap64 (a0_1 - a1_1))] (0, 0) _ rfl (fQ BK326) Try.underlying26 rfl kR) rfl ?_
 exact ⟨wQ, bE⟩

def impl_turn.f (a0_0 : Int) (a0_1 : Int) (a1_0 : Int) (a1_1 : Int) (a2_0 : Int) (a2_1 : Int) : Option (Int) := (impl_Peg_less.f a1_0 a1_1 a0_0 a0_1).bind fun bt330 => ((impl_Peg_less.f a2_0 a2_1 a0_0 a0_1).bind fun bt332 => ((impl_cross.f bt330.1 bt330.2 bt332.1 bt332.2).bind fun t334 => (some t334)))
def impl_turn.T1 : Bool × List (List Nat × List Nat) := (true, [([], []), ([], []), ([0, 1], [0, 1]), ([], []), ([], []), ([3, 4, 2], [3, 4]), ([2, 5, 5], [2, 5]), ([6, 6, 0, 1, 2, 3, 4, 5, 6], [6])])
def impl_turn.B1 : List Nat := [0, 0, 3, 0, 0, 31, 63, 127]
theorem impl_turn.tab1 : rtab .any (opsOf Try.f111 1) = impl_turn.T1 := by kernel_rfl
theorem impl_turn.bits1 : waitsOk impl_turn.T1.2 impl_turn.B1 = true := by kernel_rfl
set_option maxHeartbeats 8000000 in
set_option maxRecDepth 100000 in
theorem impl_turn.calls (a0_0 : Int) (a0_1 : Int) (a1_0 : Int) (a1_1 : Int) (a2_0 : Int) (a2_1 : Int) (r : Int) (w : World) (h : impl_turn.f a0_0 a0_1 a1_0 a1_1 a2_0 a2_1 = some r) :
  Calls Try.prog 111 #[.agg #[.int .i64 a0_0, .int .i64 a0_1], .agg #[.int .i64 a1_0, .int .i64 a1_1], .agg #[.int .i64 a2_0, .int .i64 a2_1]] w fun e w' => e = .returned (.int .i64 r) ∧ Below w.heap.size w w' := by
 have hu26 := Try.underlying26; have HB := aM (Below.refl w.heap.size w)
 unfold impl_turn.f at h; have H := h; clear h
 replace H := bS H; obtain ⟨⟨t330, t331⟩, A4, H⟩ := H; replace H := bS H; obtain ⟨⟨t332, t333⟩, A5, H⟩ := H; replace H := bS H; obtain ⟨t334, A6, H⟩ := H; obtain rfl := Option.some.inj H
 go_enter Try.func111, Try.ntmps111
 try go_wp2_with (first | ((with_reducible refine gate_dst (N := 3) rfl ?_); refine bV 3 (cs := #[.int .i64 a0_0, .int .i64 a0_1]) (t := 26) rfl rfl (by first | (go_simp; done) | (go_simp; rfl)) ?_; intro gb327 hg w7 hbox hb; have BK327 := hbox; have GW327 := gZ HB hg; have GE327 := gZ HB hg; replace HB := tB HB hb; clear hb hbox hg) | ((with_reducible refine gate_dst (N := 4) rfl ?_); refine bV 4 (cs := #[.int .i64 a1_0, .int .i64 a1_1]) (t := 26) rfl rfl (by first | (go_simp; done) | (go_simp; rfl)) ?_; intro gb328 hg w8 hbox hb; have BK328 := hbox; have GW328 := gZ HB hg; have GE328 := gZ HB hg; have NB327_328 := nG BK327 hg; have NB328_327 := nH BK327 hg; replace BK327 := bB BK327 hb; replace HB := tB HB hb; clear hb hbox hg) | ((with_reducible refine gate_dst (N := 5) rfl ?_); refine bV 5 (cs := #[.int .i64 a2_0, .int .i64 a2_1]) (t := 26) rfl rfl (by first | (go_simp; done) | (go_simp; rfl)) ?_; intro gb329 hg w9 hbox hb; have BK329 := hbox; have GW329 := gZ HB hg; have GE329 := gZ HB hg; have NB327_329 := nG BK327 hg; have NB329_327 := nH BK327 hg; have NB328_329 := nG BK328 hg; have NB329_328 := nH BK328 hg; replace BK327 := bB BK327 hb; replace BK328 := bB BK328 hb; replace HB := tB HB hb; clear hb hbox hg))
 replace BK327 := aM (kD BK327.out); replace BK328 := aM (kD BK328.out); replace BK329 := aM (kD BK329.out); replace HB := aM (pD HB.out)
 refine start_ (n := 8) (S := fun w' => w'.cell? ⟨gb328, 0, none⟩ = some (.int .i64 a1_0) ∧ w'.cell? ⟨gb328, 1, none⟩ = some (.int .i64 a1_1) ∧ w'.cell? ⟨gb327, 0, none⟩ = some (.int .i64 a0_0) ∧ w'.cell? ⟨gb327, 1, none⟩ = some (.int .i64 a0_1) ∧ w'.cell? ⟨gb329, 0, none⟩ = some (.int .i64 a2_0) ∧ w'.cell? ⟨gb329, 1, none⟩ = some (.int .i64 a2_1)) (ds := []) (bA 8 0) kR rfl kR ⟨vZ0 BK328, vZ1 BK328, vZ0 BK327, vZ1 BK327, vZ0 BK329, vZ1 BK329⟩ (fun hHeld => ?_); refine with_tabW impl_turn.tab1 impl_turn.bits1 (fun HT_ HW_ => ?_)
 generalize w9.drew = w10 at BK327 BK328 BK329 HB hHeld ⊢
 refine tU 0 7 (bA 8 1) HT_ HW_ hHeld ?_ (hy := Or.inl ⟨by rfl, by rintro w' ⟨s0, s1, s2, s3, s4, s5⟩; go_simp; with_reducible rfl⟩)
 refine tU 1 8 (bA 8 3) HT_ HW_ hHeld ?_ (hy := Or.inl ⟨by rfl, by rintro w' ⟨s0, s1, s2, s3, s4, s5⟩; go_simp; with_reducible rfl⟩)
 refine tU 3 10 (bA 8 11) HT_ HW_ hHeld ?_ (hy := Or.inl ⟨by rfl, by rintro w' ⟨s0, s1, s2, s3, s4, s5⟩; go_simp; with_reducible rfl⟩)
 refine tU 4 11 (bA 8 27) HT_ HW_ hHeld ?_ (hy := Or.inl ⟨by rfl, by rintro w' ⟨s0, s1, s2, s3, s4, s5⟩; go_simp; with_reducible rfl⟩)
 refine oU 2 9 (bA 8 31) HT_ (fun K hK => ?_)
 refine goes_ Try.func85 kR rfl #[.agg #[.int .i64 a1_0, .int .i64 a1_1], .agg #[.int .i64 a0_0, .int .i64 a0_1]] (by rfl) rfl rfl sQ ?_
 with_reducible refine (impl_Peg_less.calls a1_0 a1_1 a0_0 a0_1 t330 t331 _ A4.out).mono ?_
 rintro e w11 ⟨rfl, hb⟩; refine ⟨_, rfl, ?_⟩; replace BK327 := bB BK327 hb; replace BK328 := bB BK328 hb; replace BK329 := bB BK329 hb; replace HB := tB HB hb; (try clear hb); (try clear hb2); (try clear hk); (try clear hi)
 refine hK.out _ _ ⟨vZ0 BK328, vZ1 BK328, vZ0 BK327, vZ1 BK327, vZ0 BK329, vZ1 BK329⟩ (fun hHeld => ?_)
 clear hK K
 refine nU ?_
 refine oU 5 12 (bA 8 63) HT_ (fun K hK => ?_)
 refine goes_ Try.func85 kR rfl #[.agg #[.int .i64 a2_0, .int .i64 a2_1], .agg #[.int .i64 a0_0, .int .i64 a0_1]] (by rfl) rfl rfl sQ ?_
 with_reducible refine (impl_Peg_less.calls a2_0 a2_1 a0_0 a0_1 t332 t333 _ A5.out).mono ?_
 rintro e w12 ⟨rfl, hb⟩; refine ⟨_, rfl, ?_⟩; replace BK327 := bB BK327 hb; replace BK328 := bB BK328 hb; replace BK329 := bB BK329 hb; replace HB := tB HB hb; (try clear hb); (try clear hb2); (try clear hk); (try clear hi)
 refine hK.out _ _ ⟨vZ0 BK328, vZ1 BK328, vZ0 BK327, vZ1 BK327, vZ0 BK329, vZ1 BK329⟩ (fun hHeld => ?_)
 clear hK K
 refine nU ?_
 refine oU 6 13 (bA 8 127) HT_ (fun K hK => ?_)
 refine goes_ Try.func107 kR rfl #[.agg #[.int .i64 t330, .int .i64 t331], .agg #[.int .i64 t332, .int .i64 t333]] (by rfl) rfl rfl sQ ?_
 with_reducible refine (impl_cross.calls t330 t331 t332 t333 t334 _ A6.out).mono ?_
 rintro e w13 ⟨rfl, hb⟩; refine ⟨_, rfl, ?_⟩; replace BK327 := bB BK327 hb; replace BK328 := bB BK328 hb; replace BK329 := bB BK329 hb; replace HB := tB HB hb; (try clear hb); (try clear hb2); (try clear hk); (try clear hi)
 refine hK.out _ _ ⟨vZ0 BK328, vZ1 BK328, vZ0 BK327, vZ1 BK327, vZ0 BK329, vZ1 BK329⟩ (fun hHeld => ?_)
 clear hK K
 refine nU ?_
 refine pU 7 6 (bA 8 255) HT_ ?_
 refine done_ (done_of HT_.out kR) ?_
 try go_wp2
 go_ret
 exact ⟨wQ, bE⟩

def impl_isOn.f (a0_0 : Int) (a0_1 : Int) (a1_0 : Int) (a1_1 : Int) (a2_0 : Int) (a2_1 : Int) : Option (Bool) := (impl_turn.f a0_0 a0_1 a1_0 a1_1 a2_0 a2_1).bind fun t338 => (if t338 = 0 then ((impl_within.f a2_0 (mn a0_0 a1_0) (mx a0_0 a1_0)).bind fun t339 => (if t339 = true then ((impl_within.f a2_1 (mn a0_1 a1_1) (mx a0_1 a1_1)).bind fun t340 => (some t340)) else (some false))) else (some false))
set_option maxHeartbeats 8000000 in
set_option maxRecDepth 100000 in
theorem impl_isOn.calls (a0_0 : Int) (a0_1 : Int) (a1_0 : Int) (a1_1 : Int) (a2_0 : Int) (a2_1 : Int) (r : Bool) (w : World) (h : impl_isOn.f a0_0 a0_1 a1_0 a1_1 a2_0 a2_1 = some r) :
  Calls Try.prog 132 #[.agg #[.int .i64 a0_0, .int .i64 a0_1], .agg #[.int .i64 a1_0, .int .i64 a1_1], .agg #[.int .i64 a2_0, .int .i64 a2_1]] w fun e w' => e = .returned (.bool r) ∧ Below w.heap.size w w' := by
 have hu26 := Try.underlying26; have HB := aM (Below.refl w.heap.size w)
 unfold impl_isOn.f at h; have H := h; clear h
 replace H := bS H; obtain ⟨t338, A4, H⟩ := H
 by_cases c5 : t338 = 0
 ·rw [if_pos c5] at H; have c5b0 : (t338 == 0) = true := beq_iff_eq.mpr c5; have c5b1 : (t338 != 0) = false := bne_eq_false_iff_eq.mpr c5; clear c5; obtain ⟨ji6, hji6⟩ : ∃ j_ : Int, (mn a0_0 a1_0) = j_ := ⟨_, rfl⟩
  (first | rw [hji6] at H | simp only [hji6] at H)
  (try rw [hji6] at A4)
  have hji6_ : (if a1_0 < a0_0 then a1_0 else a0_0) = ji6 := hji6; obtain ⟨ji7, hji7⟩ : ∃ j_ : Int, (mx a0_0 a1_0) = j_ := ⟨_, rfl⟩
  (first | rw [hji7] at H | simp only [hji7] at H)
  (try rw [hji7] at A4)
  have hji7_ : (if a0_0 < a1_0 then a1_0 else a0_0) = ji7 := hji7; replace H := bS H; obtain ⟨t339, A8, H⟩ := H
  by_cases c9 : t339 = true
  ·subst c9; replace H := iT H; obtain ⟨ji10, hji10⟩ : ∃ j_ : Int, (mn a0_1 a1_1) = j_ := ⟨_, rfl⟩
   (first | rw [hji10] at H | simp only [hji10] at H)
   (try rw [hji10] at A4)
   (try rw [hji10] at A8)
   have hji10_ : (if a1_1 < a0_1 then a1_1 else a0_1) = ji10 := hji10; obtain ⟨ji11, hji11⟩ : ∃ j_ : Int, (mx a0_1 a1_1) = j_ := ⟨_, rfl⟩
   (first | rw [hji11] at H | simp only [hji11] at H)
   (try rw [hji11] at A4)
   (try rw [hji11] at A8)
   have hji11_ : (if a0_1 < a1_1 then a1_1 else a0_1) = ji11 := hji11; replace H := bS H; obtain ⟨t340, A12, H⟩ := H; obtain rfl := Option.some.inj H
   go_enter Try.func132, Try.ntmps132
   go_wp2_with (first | ((with_reducible refine gate_dst (N := 3) rfl ?_); (try (refine gate_guard (by rfl) ?_; dsimp only)); refine bV 3 (cs := #[.int .i64 a0_0, .int .i64 a0_1]) (t := 26) rfl rfl (by first | (go_simp; done) | (go_simp; rfl)) ?_; intro gb335 hg w13 hbox hb; have BK335 := hbox; have GW335 := gZ HB hg; have GE335 := gZ HB hg; replace HB := tB HB hb; clear hb hbox hg) | ((with_reducible refine gate_dst (N := 4) rfl ?_); (try (refine gate_guard (by rfl) ?_; dsimp only)); refine bV 4 (cs := #[.int .i64 a1_0, .int .i64 a1_1]) (t := 26) rfl rfl (by first | (go_simp; done) | (go_simp; rfl)) ?_; intro gb336 hg w14 hbox hb; have BK336 := hbox; have GW336 := gZ HB hg; have GE336 := gZ HB hg; have NB335_336 := nG BK335 hg; have NB336_335 := nH BK335 hg; replace BK335 := bB BK335 hb; replace HB := tB HB hb; clear hb hbox hg) | ((with_reducible refine gate_dst (N := 5) rfl ?_); (try (refine gate_guard (by rfl) ?_; dsimp only)); refine bV 5 (cs := #[.int .i64 a2_0, .int .i64 a2_1]) (t := 26) rfl rfl (by first | (go_simp; done) | (go_simp; rfl)) ?_; intro gb337 hg w15 hbox hb; have BK337 := hbox; have GW337 := gZ HB hg; have GE337 := gZ HB hg; have NB335_337 := nG BK335 hg; have NB337_335 := nH BK335 hg; have NB336_337 := nG BK336 hg; have NB337_336 := nH BK336 hg; replace BK335 := bB BK335 hb; replace BK336 := bB BK336 hb; replace HB := tB HB hb; clear hb hbox hg; have hnb16 := NB335_336.out; have hnc16 := NB336_335.out; have hnb17 := NB335_337.out; have hnc17 := NB337_335.out; have hcz18_0 := vZ0 BK335; have hcz18_1 := vZ1 BK335; have hfz18_0 := kF BK335.out 0; have hfz18_1 := kF BK335.out 1; have hnb19 := NB336_337.out; have hnc19 := NB337_336.out; have hcz20_0 := vZ0 BK336; have hcz20_1 := vZ1 BK336; have hfz20_0 := kF BK336.out 0; have hfz20_1 := kF BK336.out 1; have hcz21_0 := vZ0 BK337; have hcz21_1 := vZ1 BK337; have hfz21_0 := kF BK337.out 0; have hfz21_1 := kF BK337.out 1) | ((with_reducible refine gC (f := 111) rfl ?_); refine goesL_ (some 10) rfl rfl Try.func111 kR rfl #[.agg #[.int .i64 a0_0, .int .i64 a0_1], .agg #[.int .i64 a1_0, .int .i64 a1_1], .agg #[.int .i64 a2_0, .int .i64 a2_1]] rfl sQ ?_; (with_reducible refine (impl_turn.calls a0_0 a0_1 a1_0 a1_1 a2_0 a2_1 t338 _ A4.out).mono ?_); rintro e w22 ⟨rfl, hb⟩; refine ⟨_, rfl, ?_⟩; replace BK335 := bB BK335 hb; replace BK336 := bB BK336 hb; replace BK337 := bB BK337 hb; replace HB := tB HB hb; (try clear hb); (try clear hb2); (try clear hk); (try clear hi); have hcz23_0 := vZ0 BK337; have hcz23_1 := vZ1 BK337; have hfz23_0 := kF BK337.out 0; have hfz23_1 := kF BK337.out 1; have hcz24_0 := vZ0 BK335; have hcz24_1 := vZ1 BK335; have hfz24_0 := kF BK335.out 0; have hfz24_1 := kF BK335.out 1; have hcz25_0 := vZ0 BK336; have hcz25_1 := vZ1 BK336; have hfz25_0 := kF BK336.out 0; have hfz25_1 := kF BK336.out 1) | (go_at_call 59; (with_reducible refine (impl_within.calls a2_0 ji6 ji7 true _ A8.out).mono ?_); rintro e w' ⟨rfl, ⟨nd, rfl⟩⟩) | (go_at_call 59; (with_reducible refine (impl_within.calls a2_1 ji10 ji11 t340 _ A12.out).mono ?_); rintro e w' ⟨rfl, ⟨nd, rfl⟩⟩))
   go_ret
   exact ⟨by first | rfl | (simp [errW_none, errW_some] <;> rfl) | (simp only [← hji6, ← hji7, ← hji10, ← hji11]; first | rfl | (simp [errW_none, errW_some] <;> rfl)) | (simp [*, errW_none, errW_some] <;> rfl), bE⟩
  ·replace c9 := Bool.eq_false_iff.mpr c9; subst c9; replace H := iF H; obtain rfl := Option.some.inj H
   go_enter Try.func132, Try.ntmps132
   go_wp2_with (first | ((with_reducible refine gate_dst (N := 3) rfl ?_); (try (refine gate_guard (by rfl) ?_; dsimp only)); refine bV 3 (cs := #[.int .i64 a0_0, .int .i64 a0_1]) (t := 26) rfl rfl (by first | (go_simp; done) | (go_simp; rfl)) ?_; intro gb335 hg w26 hbox hb; have BK335 := hbox; have GW335 := gZ HB hg; have GE335 := gZ HB hg; replace HB := tB HB hb; clear hb hbox hg) | ((with_reducible refine gate_dst (N := 4) rfl ?_); (try (refine gate_guard (by rfl) ?_; dsimp only)); refine bV 4 (cs := #[.int .i64 a1_0, .int .i64 a1_1]) (t := 26) rfl rfl (by first | (go_simp; done) | (go_simp; rfl)) ?_; intro gb336 hg w27 hbox hb; have BK336 := hbox; have GW336 := gZ HB hg; have GE336 := gZ HB hg; have NB335_336 := nG BK335 hg; have NB336_335 := nH BK335 hg; replace BK335 := bB BK335 hb; replace HB := tB HB hb; clear hb hbox hg) | ((with_reducible refine gate_dst (N := 5) rfl ?_); (try (refine gate_guard (by rfl) ?_; dsimp only)); refine bV 5 (cs := #[.int .i64 a2_0, .int .i64 a2_1]) (t := 26) rfl rfl (by first | (go_simp; done) | (go_simp; rfl)) ?_; intro gb337 hg w28 hbox hb; have BK337 := hbox; have GW337 := gZ HB hg; have GE337 := gZ HB hg; have NB335_337 := nG BK335 hg; have NB337_335 := nH BK335 hg; have NB336_337 := nG BK336 hg; have NB337_336 := nH BK336 hg; replace BK335 := bB BK335 hb; replace BK336 := bB BK336 hb; replace HB := tB HB hb; clear hb hbox hg; have hnb29 := NB335_336.out; have hnc29 := NB336_335.out; have hnb30 := NB335_337.out; have hnc30 := NB337_335.out; have hcz31_0 := vZ0 BK335; have hcz31_1 := vZ1 BK335; have hfz31_0 := kF BK335.out 0; have hfz31_1 := kF BK335.out 1; have hnb32 := NB336_337.out; have hnc32 := NB337_336.out; have hcz33_0 := vZ0 BK336; have hcz33_1 := vZ1 BK336; have hfz33_0 := kF BK336.out 0; have hfz33_1 := kF BK336.out 1; have hcz34_0 := vZ0 BK337; have hcz34_1 := vZ1 BK337; have hfz34_0 := kF BK337.out 0; have hfz34_1 := kF BK337.out 1) | ((with_reducible refine gC (f := 111) rfl ?_); refine goesL_ (some 10) rfl rfl Try.func111 kR rfl #[.agg #[.int .i64 a0_0, .int .i64 a0_1], .agg #[.int .i64 a1_0, .int .i64 a1_1], .agg #[.int .i64 a2_0, .int .i64 a2_1]] rfl sQ ?_; (with_reducible refine (impl_turn.calls a0_0 a0_1 a1_0 a1_1 a2_0 a2_1 t338 _ A4.out).mono ?_); rintro e w35 ⟨rfl, hb⟩; refine ⟨_, rfl, ?_⟩; replace BK335 := bB BK335 hb; replace BK336 := bB BK336 hb; replace BK337 := bB BK337 hb; replace HB := tB HB hb; (try clear hb); (try clear hb2); (try clear hk); (try clear hi); have hcz36_0 := vZ0 BK337; have hcz36_1 := vZ1 BK337; have hfz36_0 := kF BK337.out 0; have hfz36_1 := kF BK337.out 1; have hcz37_0 := vZ0 BK335; have hcz37_1 := vZ1 BK335; have hfz37_0 := kF BK335.out 0; have hfz37_1 := kF BK335.out 1; have hcz38_0 := vZ0 BK336; have hcz38_1 := vZ1 BK336; have hfz38_0 := kF BK336.out 0; have hfz38_1 := kF BK336.out 1) | (go_at_call 59; (with_reducible refine (impl_within.calls a2_0 ji6 ji7 false _ A8.out).mono ?_); rintro e w' ⟨rfl, ⟨nd, rfl⟩⟩))
   go_ret
   exact ⟨by first | rfl | (simp [errW_none, errW_some] <;> rfl) | (simp only [← hji6, ← hji7]; first | rfl | (simp [errW_none, errW_some] <;> rfl)) | (simp [*, errW_none, errW_some] <;> rfl), bE⟩
 ·rw [if_neg c5] at H; have c5b0 : (t338 == 0) = false := beq_eq_false_iff_ne.mpr c5; have c5b1 : (t338 != 0) = true := bne_iff_ne.mpr c5; obtain rfl := Option.some.inj H
  go_enter Try.func132, Try.ntmps132
  go_wp2_with (first | ((with_reducible refine gate_dst (N := 3) rfl ?_); (try (refine gate_guard (by rfl) ?_; dsimp only)); refine bV 3 (cs := #[.int .i64 a0_0, .int .i64 a0_1]) (t := 26) rfl rfl (by first | (go_simp; done) | (go_simp; rfl)) ?_; intro gb335 hg w39 hbox hb; have BK335 := hbox; have GW335 := gZ HB hg; have GE335 := gZ HB hg; replace HB := tB HB hb; clear hb hbox hg) | ((with_reducible refine gate_dst (N := 4) rfl ?_); (try (refine gate_guard (by rfl) ?_; dsimp only)); refine bV 4 (cs := #[.int .i64 a1_0, .int .i64 a1_1]) (t := 26) rfl rfl (by first | (go_simp; done) | (go_simp; rfl)) ?_; intro gb336 hg w40 hbox hb; have BK336 := hbox; have GW336 := gZ HB hg; have GE336 := gZ HB hg; have NB335_336 := nG BK335 hg; have NB336_335 := nH BK335 hg; replace BK335 := bB BK335 hb; replace HB := tB HB hb; clear hb hbox hg) | ((with_reducible refine gate_dst (N := 5) rfl ?_); (try (refine gate_guard (by rfl) ?_; dsimp only)); refine bV 5 (cs := #[.int .i64 a2_0, .int .i64 a2_1]) (t := 26) rfl rfl (by first | (go_simp; done) | (go_simp; rfl)) ?_; intro gb337 hg w41 hbox hb; have BK337 := hbox; have GW337 := gZ HB hg; have GE337 := gZ HB hg; have NB335_337 := nG BK335 hg; have NB337_335 := nH BK335 hg; have NB336_337 := nG BK336 hg; have NB337_336 := nH BK336 hg; replace BK335 := bB BK335 hb; replace BK336 := bB BK336 hb; replace HB := tB HB hb; clear hb hbox hg; have hnb42 := NB335_336.out; have hnc42 := NB336_335.out; have hnb43 := NB335_337.out; have hnc43 := NB337_335.out; have hcz44_0 := vZ0 BK335; have hcz44_1 := vZ1 BK335; have hfz44_0 := kF BK335.out 0; have hfz44_1 := kF BK335.out 1; have hnb45 := NB336_337.out; have hnc45 := NB337_336.out; have hcz46_0 := vZ0 BK336; have hcz46_1 := vZ1 BK336; have hfz46_0 := kF BK336.out 0; have hfz46_1 := kF BK336.out 1; have hcz47_0 := vZ0 BK337; have hcz47_1 := vZ1 BK337; have hfz47_0 := kF BK337.out 0; have hfz47_1 := kF BK337.out 1) | ((with_reducible refine gC (f := 111) rfl ?_); refine goesL_ (some 10) rfl rfl Try.func111 kR rfl #[.agg #[.int .i64 a0_0, .int .i64 a0_1], .agg #[.int .i64 a1_0, .int .i64 a1_1], .agg #[.int .i64 a2_0, .int .i64 a2_1]] rfl sQ ?_; (with_reducible refine (impl_turn.calls a0_0 a0_1 a1_0 a1_1 a2_0 a2_1 t338 _ A4.out).mono ?_); rintro e w48 ⟨rfl, hb⟩; refine ⟨_, rfl, ?_⟩; replace BK335 := bB BK335 hb; replace BK336 := bB BK336 hb; replace BK337 := bB BK337 hb; replace HB := tB HB hb; (try clear hb); (try clear hb2); (try clear hk); (try clear hi)))
  go_ret
  exact ⟨wQ, bE⟩

end Go.Proofs.Ytklhakfmegbobaa.X
