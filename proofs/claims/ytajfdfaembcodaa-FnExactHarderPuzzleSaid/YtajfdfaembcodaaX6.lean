-- thin
-- short
-- compact
import Derived.Test.YtajfdfaembcodaaXA
import Derived.Test.YtajfdfaembcodaaX0
import Derived.Test.YtajfdfaembcodaaX5
namespace Go.Proofs.Ytajfdfaembcodaa.X
open Go.RowKit Go.Proofs.Ytajfdfaembcodaa.XW Go.Proofs.YtajfdfaembcodaaW.PrintWords Go.Proofs.YtajfdfaembcodaaW.PrintLast Go.Proofs.YtajfdfaembcodaaW.PrintMore
attribute [local go_sem] max2_int min2_int max_two min_two max_three min_three max_four min_four   -- for this text's walks alone
set_option linter.unusedVariables false
set_option linter.unusedSimpArgs false

def impl_IsPuzzle_1.f (k : Nat) (a0_0 : Int) (a0_1 : Int) (a0_2 : Int) (a0_3 : Int) (a1_0 : Int) (l1_1 : List (S_impl_Clue)) : Option (Bool) := (impl_IsClue.f k a1_0 a0_0 a0_1 a0_2 a0_3).bind fun t187 => (some (!t187))
theorem impl_IsPuzzle_1.mono : ∀ a0 a1 a2 a3 a4 a5 k, LeO (impl_IsPuzzle_1.f k a0 a1 a2 a3 a4 a5) (impl_IsPuzzle_1.f (k + 1) a0 a1 a2 a3 a4 a5) := by
 intro a0 a1 a2 a3 a4 a5 k
 unfold impl_IsPuzzle_1.f
 repeat' first | (with_reducible exact impl_IsClue.mono _ _ _ _ _ _) | (with_reducible exact LeO.refl _) | (with_reducible exact LeO.none _) | (with_reducible refine LeO.ite ?_ ?_) | (with_reducible refine LeO.bind ?_ (fun _ => ?_)) | exact impl_IsClue.mono _ _ _ _ _ _ | exact LeO.none _ | refine LeO.ite ?_ ?_ | refine LeO.bind ?_ (fun _ => ?_)
set_option maxHeartbeats 8000000 in
set_option maxRecDepth 100000 in
theorem impl_IsPuzzle_1.calls (k : Nat) (a0_0 : Int) (a0_1 : Int) (a0_2 : Int) (a0_3 : Int) (gx1 : Nat) (a1_0 : Int) (A1_1 : Option Addr) (c1_1 : Nat) (l1_1 : List (S_impl_Clue)) (r : Bool) (w : World) (hr1_1 : Kd.C kd_impl_Clue w A1_1 l1_1.length l1_1) (hc1_1 : l1_1.length ≤ c1_1) (hbx1 : w.heap[gx1]? = some (.cells #[.int .i64 a1_0, .slice A1_1 l1_1.length c1_1] 31 (0, 0))) (h : impl_IsPuzzle_1.f k a0_0 a0_1 a0_2 a0_3 a1_0 l1_1 = some r) :
  Calls Try.prog 48 #[.agg #[.int .i64 a0_0, .int .i64 a0_1, .int .i64 a0_2, .int .i64 a0_3], .pointer (some ⟨gx1, 0, none⟩)] w fun e w' => e = .returned (.bool r) ∧ Below w.heap.size w w' := by
 have hu61 := Try.underlying61; have hu3 := Try.underlying3; have HR1_1 := aM hr1_1; have HC1_1 := aM hc1_1; clear hr1_1 hc1_1; have BK1 := aM hbx1; clear hbx1; have HB := aM (Below.refl w.heap.size w)
 unfold impl_IsPuzzle_1.f at h; have H := h; clear h
 replace H := bS H; obtain ⟨t187, A3, H⟩ := H; obtain rfl := Option.some.inj H
 go_enter Try.func48, Try.ntmps48
 go_wp2_with (first | ((with_reducible refine gate_dst (N := 2) rfl ?_); refine bV 2 (cs := #[.int .i64 a0_0, .int .i64 a0_1, .int .i64 a0_2, .int .i64 a0_3]) (t := 61) rfl rfl (by first | (go_simp; done) | (go_simp; rfl)) ?_; intro gb186 hg w4 hbox hb; have BK186 := hbox; have GW186 := gZ HB hg; have GE186 := gZ HB hg; have NB1_186 := aM ((by rw [hg]; exact nN (blk_lt (g := gx1) (o := .cells #[.int .i64 a1_0, .slice A1_1 l1_1.length c1_1] 31 (0, 0)) (gQ BK1)) : gx1 ≠ gb186)); have NB186_1 := aM ((by rw [hg]; exact Nat.ne_of_gt (blk_lt (g := gx1) (o := .cells #[.int .i64 a1_0, .slice A1_1 l1_1.length c1_1] 31 (0, 0)) (gQ BK1)) : gb186 ≠ gx1)); replace BK1 := aM (blk_below (g := gx1) (o := .cells #[.int .i64 a1_0, .slice A1_1 l1_1.length c1_1] 31 (0, 0)) (gQ BK1) hb); replace HB := tB HB hb; clear hb hbox hg; have hnb5 := NB1_186.out; have hnc5 := NB186_1.out; have hcz6_0 : w4.cell? ⟨gx1, 0, none⟩ = some (.int .i64 a1_0) := vZ0 BK1; have hcz6_1 : w4.cell? ⟨gx1, 1, none⟩ = some (.slice A1_1 l1_1.length c1_1) := vZ1 BK1; have hfz6_0 := kF BK1.out 0; have hfz6_1 := kF BK1.out 1; have hcz7_0 := vZ0 BK186; have hcz7_1 := vZ1 BK186; have hcz7_2 := vZ2 BK186; have hcz7_3 := vZ3 BK186; have hfz7_0 := kF BK186.out 0; have hfz7_1 := kF BK186.out 1; have hfz7_2 := kF BK186.out 2; have hfz7_3 := kF BK186.out 3) | ((with_reducible refine gC (f := 49) rfl ?_); refine goesL_ (some 7) rfl rfl Try.func49 kR rfl #[.int .i64 a1_0, .agg #[.int .i64 a0_0, .int .i64 a0_1, .int .i64 a0_2, .int .i64 a0_3]] rfl sQ ?_; (with_reducible refine (impl_IsClue.calls k a1_0 a0_0 a0_1 a0_2 a0_3 t187 _ A3.out).mono ?_); rintro e w8 ⟨rfl, hb⟩; refine ⟨_, rfl, ?_⟩; replace BK1 := aM (blk_below (g := gx1) (o := .cells #[.int .i64 a1_0, .slice A1_1 l1_1.length c1_1] 31 (0, 0)) (gQ BK1) hb); replace BK186 := bB BK186 hb; replace HB := tB HB hb; (try clear hb); (try clear hb2); (try clear hk); (try clear hi)))
 go_ret
 exact ⟨wQ, bE⟩

def slices_IndexFunc_impl_Clue_at_impl_IsPuzzle_1.l0 : Nat → List (S_impl_Clue) → Int → Int → Int → List (S_impl_Clue) → Option (Int)
 | 0, _, _, _, _, _ => none
 | k + 1, x0, x7, x8, x2000, x2001 => if x8 < x7 then (if 0 ≤ x8 then (if x8 < (x0.length : Int) then ((impl_IsPuzzle_1.f k ((rd_impl_Clue x0 x8).f0) ((rd_impl_Clue x0 x8).f1) ((rd_impl_Clue x0 x8).f2) ((rd_impl_Clue x0 x8).f3) x2000 x2001).bind fun t189 => (if t189 = true then (some x8) else (slices_IndexFunc_impl_Clue_at_impl_IsPuzzle_1.l0 k x0 x7 (wrap64 (x8 + 1)) x2000 x2001))) else (none)) else (none)) else (some (-1))
def slices_IndexFunc_impl_Clue_at_impl_IsPuzzle_1.f (k : Nat) (l0 : List (S_impl_Clue)) (a1_0 : Int) (l1_1 : List (S_impl_Clue)) : Option (Int) := slices_IndexFunc_impl_Clue_at_impl_IsPuzzle_1.l0 k l0 (l0.length : Int) 0 a1_0 l1_1
theorem slices_IndexFunc_impl_Clue_at_impl_IsPuzzle_1.mono_l : ∀ k, (∀ y0 y1 y2 y3 y4, LeO (slices_IndexFunc_impl_Clue_at_impl_IsPuzzle_1.l0 k y0 y1 y2 y3 y4) (slices_IndexFunc_impl_Clue_at_impl_IsPuzzle_1.l0 (k + 1) y0 y1 y2 y3 y4))
 | 0 => fun _ _ _ _ _ r h => by simp [slices_IndexFunc_impl_Clue_at_impl_IsPuzzle_1.l0] at h
 | k + 1 => by
  have ih0 := slices_IndexFunc_impl_Clue_at_impl_IsPuzzle_1.mono_l k
  ·intro y0 y1 y2 y3 y4
   unfold slices_IndexFunc_impl_Clue_at_impl_IsPuzzle_1.l0
   repeat' first
   | (with_reducible exact ih0 _ _ _ _ _)
   | (with_reducible exact impl_IsPuzzle_1.mono _ _ _ _ _ _ _)
   | (with_reducible exact LeO.refl _)
   | (with_reducible exact LeO.none _)
   | (with_reducible refine LeO.ite ?_ ?_)
   | (with_reducible refine LeO.bind ?_ (fun _ => ?_))
   | exact ih0 _ _ _ _ _
   | exact impl_IsPuzzle_1.mono _ _ _ _ _ _ _
   | exact LeO.none _
   | refine LeO.ite ?_ ?_
   | refine LeO.bind ?_ (fun _ => ?_)
theorem slices_IndexFunc_impl_Clue_at_impl_IsPuzzle_1.mono : ∀ a0 a1 a2 k, LeO (slices_IndexFunc_impl_Clue_at_impl_IsPuzzle_1.f k a0 a1 a2) (slices_IndexFunc_impl_Clue_at_impl_IsPuzzle_1.f (k + 1) a0 a1 a2) := by
 intro a0 a1 a2 k
 have ih0 := slices_IndexFunc_impl_Clue_at_impl_IsPuzzle_1.mono_l k
 unfold slices_IndexFunc_impl_Clue_at_impl_IsPuzzle_1.f
 repeat' first | (with_reducible exact ih0 _ _ _ _ _) | (with_reducible exact impl_IsPuzzle_1.mono _ _ _ _ _ _ _) | (with_reducible exact LeO.refl _) | (with_reducible exact LeO.none _) | (with_reducible refine LeO.ite ?_ ?_) | (with_reducible refine LeO.bind ?_ (fun _ => ?_)) | exact ih0 _ _ _ _ _ | exact impl_IsPuzzle_1.mono _ _ _ _ _ _ _ | exact LeO.none _ | refine LeO.ite ?_ ?_ | refine LeO.bind ?_ (fun _ => ?_)
set_option maxHeartbeats 8000000 in
set_option maxRecDepth 100000 in
theorem slices_IndexFunc_impl_Clue_at_impl_IsPuzzle_1.calls (k : Nat) (A0 : Option Addr) (c0 : Nat) (l0 : List (S_impl_Clue)) (gx1 : Nat) (a1_0 : Int) (A1_1 : Option Addr) (c1_1 : Nat) (l1_1 : List (S_impl_Clue)) (r : Int) (w : World) (hr0 : Kd.C kd_impl_Clue w A0 l0.length l0) (hc0 : l0.length ≤ c0) (hr1_1 : Kd.C kd_impl_Clue w A1_1 l1_1.length l1_1) (hc1_1 : l1_1.length ≤ c1_1) (hbx1 : w.heap[gx1]? = some (.cells #[.int .i64 a1_0, .slice A1_1 l1_1.length c1_1] 31 (0, 0))) (h : slices_IndexFunc_impl_Clue_at_impl_IsPuzzle_1.f k l0 a1_0 l1_1 = some r) :
  Calls Try.prog 60 #[.slice A0 l0.length c0, .func (.func 48) #[] #[.pointer (some ⟨gx1, 0, none⟩)]] w fun e w' => e = .returned (.int .i64 r) ∧ Below w.heap.size w w' := by
 have hu61 := Try.underlying61; have HR0 := aM hr0; have HC0 := aM hc0; clear hr0 hc0; have HR1_1 := aM hr1_1; have HC1_1 := aM hc1_1; clear hr1_1 hc1_1; have BK1 := aM hbx1; clear hbx1; have HB := aM (Below.refl w.heap.size w)
 unfold slices_IndexFunc_impl_Clue_at_impl_IsPuzzle_1.f at h; have H := h; clear h
 have H' := aM H; clear H
 go_enter Try.func60, Try.ntmps60
 go_wp2
 go_loopg [8] k (fun kq v8 w' => ∃ (x8_1 : Int), v8 = .int .i64 x8_1 ∧ Aside0 (slices_IndexFunc_impl_Clue_at_impl_IsPuzzle_1.l0 kq l0 (l0.length : Int) x8_1 a1_0 l1_1 = some r) ∧ Aside0 (kq ≤ k) ∧ Aside0 (w'.heap[gx1]? = some (.cells #[.int .i64 a1_0, (.slice A1_1 l1_1.length c1_1)] 31 (0, 0))) ∧ Aside0 (Below w.heap.size w w'))
 case atStart => exact ⟨(0), eQ, H', ⟨Nat.le_refl _⟩, ⟨gQ BK1⟩, ⟨bE⟩⟩
 case round =>
  clear H'; obtain ⟨x8_1, rfl, HA, HK1, BK1, HB⟩ := hrel
  cases gk with
  | zero => exact absurd HA.out (by simp [slices_IndexFunc_impl_Clue_at_impl_IsPuzzle_1.l0])
  | succ k1 =>
   have H := HA.out; clear HA
   simp only [slices_IndexFunc_impl_Clue_at_impl_IsPuzzle_1.l0] at H
   by_cases c3 : x8_1 < (l0.length : Int)
   ·rw [if_pos c3] at H; have c3b0 := dE c3; clear c3; replace H := iD H; obtain ⟨c4b0, H⟩ := H; replace H := iD H; obtain ⟨c5b0, H⟩ := H; replace H := bS H; obtain ⟨t189, A6, H⟩ := H
    by_cases c7 : t189 = true
    ·subst c7; replace H := iT H; obtain rfl := Option.some.inj H; have p188 : 0 ≤ (x8_1 : Int) := dT aQ; have q188 : x8_1 < (l0.length : Int) := dT aQ; obtain ⟨ad188, e188, hx188_0, hx188_1, hx188_2, hx188_3⟩ := at_impl_Clue HR0.out x8_1 p188 q188
     cases e188
     replace hx188_0 := hC HB hx188_0; replace hx188_1 := hC HB hx188_1; replace hx188_2 := hC HB hx188_2; replace hx188_3 := hC HB hx188_3; replace p188 := eq_true p188; replace q188 := eq_true q188
     go_wp2_with (first | ((with_reducible refine gate_tmp rfl ?_); refine goesLTC_ (some 16) rfl rfl Try.func48 kR rfl #[.agg #[.int .i64 ((rd_impl_Clue l0 x8_1).f0), .int .i64 ((rd_impl_Clue l0 x8_1).f1), .int .i64 ((rd_impl_Clue l0 x8_1).f2), .int .i64 ((rd_impl_Clue l0 x8_1).f3)], .pointer (some ⟨gx1, 0, none⟩)] #[] #[.pointer (some ⟨gx1, 0, none⟩)] rfl (by first | rfl | (simp [Act.eval]; done)) (by (try simp only [mA, mC, mN, List.append_toArray, List.nil_append, List.cons_append, List.append_nil]); (try simp only [mA, mC, mN]); first | done | rfl | (simp only [lD, lT]; rfl)) ?_; (with_reducible refine (impl_IsPuzzle_1.calls k1 ((rd_impl_Clue l0 x8_1).f0) ((rd_impl_Clue l0 x8_1).f1) ((rd_impl_Clue l0 x8_1).f2) ((rd_impl_Clue l0 x8_1).f3) gx1 a1_0 A1_1 c1_1 l1_1 true _ ?side1 ?side2 ?side3 A6.out).mono ?_); (case side1 => repeat (first | exact (Kd.C_below HR1_1.out HB.out) | (with_reducible refine cA ?_ _) | (with_reducible refine cN ?_ _) | (with_reducible refine cD ?_))); (case side2 => exact HC1_1.out); (case side3 => exact (gQ BK1)); rintro e w8 ⟨rfl, hb⟩; refine ⟨_, rfl, ?_⟩; replace BK1 := aM (blk_below (g := gx1) (o := .cells #[.int .i64 a1_0, .slice A1_1 l1_1.length c1_1] 31 (0, 0)) (gQ BK1) hb); replace HB := tB HB hb; (try clear hb); (try clear hb2); (try clear hk); (try clear hi)))
     go_ret
     exact ⟨wQ, bE⟩
    ·replace c7 := Bool.eq_false_iff.mpr c7; subst c7; replace H := iF H; have H' := aM H; clear H; have p188 : 0 ≤ (x8_1 : Int) := dT aQ; have q188 : x8_1 < (l0.length : Int) := dT aQ; obtain ⟨ad188, e188, hx188_0, hx188_1, hx188_2, hx188_3⟩ := at_impl_Clue HR0.out x8_1 p188 q188
     cases e188
     replace hx188_0 := hC HB hx188_0; replace hx188_1 := hC HB hx188_1; replace hx188_2 := hC HB hx188_2; replace hx188_3 := hC HB hx188_3; replace p188 := eq_true p188; replace q188 := eq_true q188
     go_wp2_with (first | ((with_reducible refine gate_tmp rfl ?_); refine goesLTC_ (some 16) rfl rfl Try.func48 kR rfl #[.agg #[.int .i64 ((rd_impl_Clue l0 x8_1).f0), .int .i64 ((rd_impl_Clue l0 x8_1).f1), .int .i64 ((rd_impl_Clue l0 x8_1).f2), .int .i64 ((rd_impl_Clue l0 x8_1).f3)], .pointer (some ⟨gx1, 0, none⟩)] #[] #[.pointer (some ⟨gx1, 0, none⟩)] rfl (by first | rfl | (simp [Act.eval]; done)) (by (try simp only [mA, mC, mN, List.append_toArray, List.nil_append, List.cons_append, List.append_nil]); (try simp only [mA, mC, mN]); first | done | rfl | (simp only [lD, lT]; rfl)) ?_; (with_reducible refine (impl_IsPuzzle_1.calls k1 ((rd_impl_Clue l0 x8_1).f0) ((rd_impl_Clue l0 x8_1).f1) ((rd_impl_Clue l0 x8_1).f2) ((rd_impl_Clue l0 x8_1).f3) gx1 a1_0 A1_1 c1_1 l1_1 false _ ?side1 ?side2 ?side3 A6.out).mono ?_); (case side1 => repeat (first | exact (Kd.C_below HR1_1.out HB.out) | (with_reducible refine cA ?_ _) | (with_reducible refine cN ?_ _) | (with_reducible refine cD ?_))); (case side2 => exact HC1_1.out); (case side3 => exact (gQ BK1)); rintro e w9 ⟨rfl, hb⟩; refine ⟨_, rfl, ?_⟩; replace BK1 := aM (blk_below (g := gx1) (o := .cells #[.int .i64 a1_0, .slice A1_1 l1_1.length c1_1] 31 (0, 0)) (gQ BK1) hb); replace HB := tB HB hb; (try clear hb); (try clear hb2); (try clear hk); (try clear hi)))
     go_roundg k1
     case measure => have := HK1.out; omega
     case rel => exact ⟨(wrap64 (x8_1 + 1)), eQ, H', ⟨by have := HK1.out; omega⟩, ⟨gQ BK1⟩, ⟨bE⟩⟩
   ·rw [if_neg c3] at H; have c3b0 := decide_eq_false c3; clear c3; obtain rfl := Option.some.inj H; go_wp2
    go_ret
    exact ⟨wQ, bE⟩

def slices_ContainsFunc_impl_Clue_at_impl_IsPuzzle_1.f (k : Nat) (l0 : List (S_impl_Clue)) (a1_0 : Int) (l1_1 : List (S_impl_Clue)) : Option (Bool) := (slices_IndexFunc_impl_Clue_at_impl_IsPuzzle_1.f k l0 a1_0 l1_1).bind fun t190 => (some (decide (t190 ≥ 0)))
theorem slices_ContainsFunc_impl_Clue_at_impl_IsPuzzle_1.mono : ∀ a0 a1 a2 k, LeO (slices_ContainsFunc_impl_Clue_at_impl_IsPuzzle_1.f k a0 a1 a2) (slices_ContainsFunc_impl_Clue_at_impl_IsPuzzle_1.f (k + 1) a0 a1 a2) := by
 intro a0 a1 a2 k
 unfold slices_ContainsFunc_impl_Clue_at_impl_IsPuzzle_1.f
 repeat' first | (with_reducible exact slices_IndexFunc_impl_Clue_at_impl_IsPuzzle_1.mono _ _ _ _) | (with_reducible exact LeO.refl _) | (with_reducible exact LeO.none _) | (with_reducible refine LeO.ite ?_ ?_) | (with_reducible refine LeO.bind ?_ (fun _ => ?_)) | exact slices_IndexFunc_impl_Clue_at_impl_IsPuzzle_1.mono _ _ _ _ | exact LeO.none _ | refine LeO.ite ?_ ?_ | refine LeO.bind ?_ (fun _ => ?_)
set_option maxHeartbeats 8000000 in
set_option maxRecDepth 100000 in
theorem slices_ContainsFunc_impl_Clue_at_impl_IsPuzzle_1.calls (k : Nat) (A0 : Option Addr) (c0 : Nat) (l0 : List (S_impl_Clue)) (gx1 : Nat) (a1_0 : Int) (A1_1 : Option Addr) (c1_1 : Nat) (l1_1 : List (S_impl_Clue)) (r : Bool) (w : World) (hr0 : Kd.C kd_impl_Clue w A0 l0.length l0) (hc0 : l0.length ≤ c0) (hr1_1 : Kd.C kd_impl_Clue w A1_1 l1_1.length l1_1) (hc1_1 : l1_1.length ≤ c1_1) (hbx1 : w.heap[gx1]? = some (.cells #[.int .i64 a1_0, .slice A1_1 l1_1.length c1_1] 31 (0, 0))) (h : slices_ContainsFunc_impl_Clue_at_impl_IsPuzzle_1.f k l0 a1_0 l1_1 = some r) :
  Calls Try.prog 47 #[.slice A0 l0.length c0, .func (.func 48) #[] #[.pointer (some ⟨gx1, 0, none⟩)]] w fun e w' => e = .returned (.bool r) ∧ Below w.heap.size w w' := by
 have HR0 := aM hr0; have HC0 := aM hc0; clear hr0 hc0; have HR1_1 := aM hr1_1; have HC1_1 := aM hc1_1; clear hr1_1 hc1_1; have BK1 := aM hbx1; clear hbx1; have HB := aM (Below.refl w.heap.size w)
 unfold slices_ContainsFunc_impl_Clue_at_impl_IsPuzzle_1.f at h; have H := h; clear h
 replace H := bS H; obtain ⟨t190, A3, H⟩ := H; obtain rfl := Option.some.inj H
 go_enter Try.func47, Try.ntmps47
 go_wp2_with (first | ((with_reducible refine gC (f := 60) rfl ?_); refine goesL_ (some 7) rfl rfl Try.func60 kR rfl #[.slice A0 l0.length c0, .func (.func 48) #[] #[.pointer (some ⟨gx1, 0, none⟩)]] rfl sQ ?_; (with_reducible refine (slices_IndexFunc_impl_Clue_at_impl_IsPuzzle_1.calls k _ _ l0 gx1 a1_0 A1_1 c1_1 l1_1 t190 _ ?side1 ?side2 ?side3 ?side4 ?side5 A3.out).mono ?_); (case side1 => repeat (first | exact HR0.out | (with_reducible refine cA ?_ _) | (with_reducible refine cN ?_ _) | (with_reducible refine cD ?_))); (case side2 => exact HC0.out); (case side3 => repeat (first | exact HR1_1.out | (with_reducible refine cA ?_ _) | (with_reducible refine cN ?_ _) | (with_reducible refine cD ?_))); (case side4 => exact HC1_1.out); (case side5 => exact (gQ BK1)); rintro e w4 ⟨rfl, hb⟩; refine ⟨_, rfl, ?_⟩; replace BK1 := aM (blk_below (g := gx1) (o := .cells #[.int .i64 a1_0, .slice A1_1 l1_1.length c1_1] 31 (0, 0)) (gQ BK1) hb); replace HB := tB HB hb; (try clear hb); (try clear hb2); (try clear hk); (try clear hi)))
 go_ret
 exact ⟨wQ, bE⟩

def impl_IsPuzzle.f (k : Nat) (a0_0 : Int) (l0_1 : List (S_impl_Clue)) : Option (Bool) := (impl_isSide.f a0_0).bind fun t192 => (if t192 = true then (if (l0_1.length : Int) ≤ 6 then ((slices_ContainsFunc_impl_Clue_at_impl_IsPuzzle_1.f k l0_1 a0_0 l0_1).bind fun t193 => (some (!t193))) else (some false)) else (some false))
theorem impl_IsPuzzle.mono : ∀ a0 a1 k, LeO (impl_IsPuzzle.f k a0 a1) (impl_IsPuzzle.f (k + 1) a0 a1) := by
 intro a0 a1 k
 unfold impl_IsPuzzle.f
 repeat' first | (with_reducible exact slices_ContainsFunc_impl_Clue_at_impl_IsPuzzle_1.mono _ _ _ _) | (with_reducible exact LeO.refl _) | (with_reducible exact LeO.none _) | (with_reducible refine LeO.ite ?_ ?_) | (with_reducible refine LeO.bind ?_ (fun _ => ?_)) | exact slices_ContainsFunc_impl_Clue_at_impl_IsPuzzle_1.mono _ _ _ _ | exact LeO.none _ | refine LeO.ite ?_ ?_ | refine LeO.bind ?_ (fun _ => ?_)
set_option maxHeartbeats 8000000 in
set_option maxRecDepth 100000 in
theorem impl_IsPuzzle.calls (k : Nat) (a0_0 : Int) (A0_1 : Option Addr) (c0_1 : Nat) (l0_1 : List (S_impl_Clue)) (r : Bool) (w : World) (hr0_1 : Kd.C kd_impl_Clue w A0_1 l0_1.length l0_1) (hc0_1 : l0_1.length ≤ c0_1) (h : impl_IsPuzzle.f k a0_0 l0_1 = some r) :
  Calls Try.prog 30 #[.agg #[.int .i64 a0_0, .slice A0_1 l0_1.length c0_1]] w fun e w' => e = .returned (.bool r) ∧ Below w.heap.size w w' := by
 have hu31 := Try.underlying31; have HR0_1 := aM hr0_1; have HC0_1 := aM hc0_1; clear hr0_1 hc0_1; have HB := aM (Below.refl w.heap.size w)
 unfold impl_IsPuzzle.f at h; have H := h; clear h
 replace H := bS H; obtain ⟨t192, A2, H⟩ := H
 by_cases c3 : t192 = true
 ·subst c3; replace H := iT H
  by_cases c4 : (l0_1.length : Int) ≤ 6
  ·rw [if_pos c4] at H; have c4b0 := dE c4; have c4b1 : decide (l0_1.length ≤ 6) = true := dE (by omega)
   clear c4; replace H := bS H; obtain ⟨t193, A5, H⟩ := H; obtain rfl := Option.some.inj H
   go_enter Try.func30, Try.ntmps30
   go_wp2_with (first | ((with_reducible refine gate_dst (N := 1) rfl ?_); (try (refine gate_guard (by rfl) ?_; dsimp only)); refine bV 1 (cs := #[.int .i64 a0_0, .slice A0_1 l0_1.length c0_1]) (t := 31) rfl rfl (by first | (go_simp; done) | (go_simp; rfl)) ?_; intro gb191 hg w6 hbox hb; have BK191 := hbox; have GW191 := gZ HB hg; have GE191 := gZ HB hg; replace HB := tB HB hb; clear hb hbox hg; have hcz7_0 := vZ0 BK191; have hcz7_1 := vZ1 BK191; have hfz7_0 := kF BK191.out 0; have hfz7_1 := kF BK191.out 1) | ((with_reducible refine gC (f := 46) rfl ?_); refine goesL_ (some 5) rfl rfl Try.func46 kR rfl #[.int .i64 a0_0] rfl sQ ?_; (with_reducible refine (impl_isSide.calls a0_0 true _ A2.out).mono ?_); rintro e w' ⟨rfl, ⟨nd, rfl⟩⟩; refine ⟨_, rfl, ?_⟩) | (go_at_call 47; (with_reducible refine (slices_ContainsFunc_impl_Clue_at_impl_IsPuzzle_1.calls k _ _ l0_1 gb191 a0_0 A0_1 c0_1 l0_1 t193 _ ?side1 ?side2 ?side3 ?side4 ?side5 A5.out).mono ?_); (case side1 => repeat (first | exact (Kd.C_below HR0_1.out bE) | (with_reducible refine cA ?_ _) | (with_reducible refine cN ?_ _) | (with_reducible refine cD ?_))); (case side2 => exact HC0_1.out); (case side3 => repeat (first | exact (Kd.C_below HR0_1.out bE) | (with_reducible refine cA ?_ _) | (with_reducible refine cN ?_ _) | (with_reducible refine cD ?_))); (case side4 => exact HC0_1.out); (case side5 => exact (gQ BK191)); rintro e w8 ⟨rfl, hb⟩; replace BK191 := bB BK191 hb; replace HB := tB HB hb; (try clear hb); (try clear hb2); (try clear hk); (try clear hi)))
   go_ret
   exact ⟨wQ, bE⟩
  ·rw [if_neg c4] at H; have c4b0 := decide_eq_false c4; have c4b1 : decide (l0_1.length ≤ 6) = false := decide_eq_false (by omega)
   clear c4; obtain rfl := Option.some.inj H
   go_enter Try.func30, Try.ntmps30
   go_wp2_with (first | ((with_reducible refine gate_dst (N := 1) rfl ?_); (try (refine gate_guard (by rfl) ?_; dsimp only)); refine bV 1 (cs := #[.int .i64 a0_0, .slice A0_1 l0_1.length c0_1]) (t := 31) rfl rfl (by first | (go_simp; done) | (go_simp; rfl)) ?_; intro gb191 hg w9 hbox hb; have BK191 := hbox; have GW191 := gZ HB hg; have GE191 := gZ HB hg; replace HB := tB HB hb; clear hb hbox hg; have hcz10_0 := vZ0 BK191; have hcz10_1 := vZ1 BK191; have hfz10_0 := kF BK191.out 0; have hfz10_1 := kF BK191.out 1) | ((with_reducible refine gC (f := 46) rfl ?_); refine goesL_ (some 5) rfl rfl Try.func46 kR rfl #[.int .i64 a0_0] rfl sQ ?_; (with_reducible refine (impl_isSide.calls a0_0 true _ A2.out).mono ?_); rintro e w' ⟨rfl, ⟨nd, rfl⟩⟩; refine ⟨_, rfl, ?_⟩))
   go_ret
   exact ⟨wQ, bE⟩
 ·replace c3 := Bool.eq_false_iff.mpr c3; subst c3; replace H := iF H; obtain rfl := Option.some.inj H
  go_enter Try.func30, Try.ntmps30
  go_wp2_with (first | ((with_reducible refine gate_dst (N := 1) rfl ?_); (try (refine gate_guard (by rfl) ?_; dsimp only)); refine bV 1 (cs := #[.int .i64 a0_0, .slice A0_1 l0_1.length c0_1]) (t := 31) rfl rfl (by first | (go_simp; done) | (go_simp; rfl)) ?_; intro gb191 hg w11 hbox hb; have BK191 := hbox; have GW191 := gZ HB hg; have GE191 := gZ HB hg; replace HB := tB HB hb; clear hb hbox hg; have hcz12_0 := vZ0 BK191; have hcz12_1 := vZ1 BK191; have hfz12_0 := kF BK191.out 0; have hfz12_1 := kF BK191.out 1) | ((with_reducible refine gC (f := 46) rfl ?_); refine goesL_ (some 5) rfl rfl Try.func46 kR rfl #[.int .i64 a0_0] rfl sQ ?_; (with_reducible refine (impl_isSide.calls a0_0 false _ A2.out).mono ?_); rintro e w' ⟨rfl, ⟨nd, rfl⟩⟩; refine ⟨_, rfl, ?_⟩))
  go_ret
  exact ⟨wQ, bE⟩

-- NOT PRINTED: function 61 (slices_IndexFunc_impl_Peg)

-- NOT PRINTED: function 50 (slices_DeleteFunc_impl_Peg)

mutual
def impl_board.l0 : Nat → Int → List (S_impl_Peg) → Int → Int → Option ((List (S_impl_Peg)))
 | 0, _, _, _, _ => none
 | k + 1, x1, x5, x9, x10 => if x10 < x9 then (impl_board.l1 k x1 x5 x10 x9 x10 x1 0) else (some x5)
def impl_board.l1 : Nat → Int → List (S_impl_Peg) → Int → Int → Int → Int → Int → Option ((List (S_impl_Peg)))
 | 0, _, _, _, _, _, _, _ => none
 | k + 1, x1, x5, x6, x9, x10, x13, x14 => if x14 < x13 then (if x5.length < 8796093022208 then (impl_board.l1 k x1 (x5 ++ [(⟨x6, x14⟩ : S_impl_Peg)]) x6 x9 x10 x13 (wrap64 (x14 + 1))) else (none)) else (impl_board.l0 k x1 x5 x9 (wrap64 (x10 + 1)))
end
def impl_board.f (k : Nat) (a0 : Int) (a1 : Int) : Option ((List (S_impl_Peg))) := impl_board.l0 k a1 (([] : List (S_impl_Peg))) a0 0
theorem impl_board.mono_l : ∀ k, (∀ y0 y1 y2 y3, LeO (impl_board.l0 k y0 y1 y2 y3) (impl_board.l0 (k + 1) y0 y1 y2 y3)) ∧ (∀ y0 y1 y2 y3 y4 y5 y6, LeO (impl_board.l1 k y0 y1 y2 y3 y4 y5 y6) (impl_board.l1 (k + 1) y0 y1 y2 y3 y4 y5 y6))
 | 0 => ⟨fun _ _ _ _ r h => by simp [impl_board.l0] at h, fun _ _ _ _ _ _ _ r h => by simp [impl_board.l1] at h⟩
 | k + 1 => by
  obtain ⟨ih0, ih1⟩ := impl_board.mono_l k
  refine ⟨?_, ?_⟩ <;> intros <;> (first | unfold impl_board.l0 | unfold impl_board.l1) <;> repeat' first | (with_reducible exact ih0 _ _ _ _) | (with_reducible exact ih1 _ _ _ _ _ _ _) | (with_reducible exact LeO.refl _) | (with_reducible exact LeO.none _) | (with_reducible refine LeO.ite ?_ ?_) | (with_reducible refine LeO.bind ?_ (fun _ => ?_)) | exact ih0 _ _ _ _ | exact ih1 _ _ _ _ _ _ _ | exact LeO.none _ | refine LeO.ite ?_ ?_ | refine LeO.bind ?_ (fun _ => ?_)
theorem impl_board.mono : ∀ a0 a1 k, LeO (impl_board.f k a0 a1) (impl_board.f (k + 1) a0 a1) := by
 intro a0 a1 k
 obtain ⟨ih0, ih1⟩ := impl_board.mono_l k
 unfold impl_board.f
 repeat' first | (with_reducible exact ih0 _ _ _ _) | (with_reducible exact ih1 _ _ _ _ _ _ _) | (with_reducible exact LeO.refl _) | (with_reducible exact LeO.none _) | (with_reducible refine LeO.ite ?_ ?_) | (with_reducible refine LeO.bind ?_ (fun _ => ?_)) | exact ih0 _ _ _ _ | exact ih1 _ _ _ _ _ _ _ | exact LeO.none _ | refine LeO.ite ?_ ?_ | refine LeO.bind ?_ (fun _ => ?_)
set_option maxHeartbeats 8000000 in
set_option maxRecDepth 100000 in
theorem impl_board.calls (k : Nat) (a0 : Int) (a1 : Int) (r : List (S_impl_Peg)) (w : World) (h : impl_board.f k a0 a1 = some r) :
  Calls Try.prog 51 #[.int .i64 a0, .int .i64 a1] w fun e w' => ∃ v0_ : Value, e = .returned (v0_) ∧ Kd.R kd_impl_Peg 54 w' w.heap.size (fun _ => True) v0_ r ∧ Below w.heap.size w w' := by
 have hu54 := Try.underlying54; have HB := aM (Below.refl w.heap.size w)
 unfold impl_board.f at h; have H := h; clear h
 obtain ⟨y194, hy194⟩ : ∃ y_ : List (S_impl_Peg), y_ = (([] : List (S_impl_Peg))) := ⟨_, rfl⟩; rw [← hy194] at H; have Ny194 := aM hy194; clear hy194; have H' := aM H; clear H
 go_enter Try.func51, Try.ntmps51
 go_wp2_with (first | ((with_reducible refine gate_dst (N := 8) rfl ?_); refine Kd.R_lit kd_impl_Peg _ 54 ?hg (N := 8) ?hd (xs := ([] : List (S_impl_Peg))) (inner := []) (ok := fun _ => True) (okp := fun _ => True) ?hr ?hp (fun _ hk => hk) trivial (Below.refl _ _) (Nat.le_refl _) (by simp) ?_; (case hd => rfl); (case hg => rfl); (case hr => first | (go_simp; done) | (go_simp; rfl)); (case hp => exact (Reps.none _ _)); intro v195 w3 ho4 hb hg_ hnew_; clear hg_ hnew_; (first | rw [← Ny194.out] at ho4 | (simp only [Int.reduceToNat] at ho4; rw [← Ny194.out] at ho4)); have HO196 := aM (Kd.R_lower ho4 (pZ bQ)); replace HB := tB HB hb; clear hb ho4))
 go_loopg [5, 10] k (fun kq v5 v10 w' => ∃ (x5_1 : List (S_impl_Peg)) (x10_1 : Int), v10 = .int .i64 x10_1 ∧ Aside0 (impl_board.l0 kq a1 x5_1 a0 x10_1 = some r) ∧ Aside0 (kq ≤ k) ∧ Aside0 (Kd.R kd_impl_Peg 54 w' w.heap.size (fun _ => True) v5 x5_1) ∧ Aside0 (Below w.heap.size w w'))
 case atStart => exact ⟨(y194), (0), eQ, H', ⟨Nat.le_refl _⟩, ⟨by (with_reducible repeat (first | apply rA | apply rN | apply rD)); exact HO196.out⟩, ⟨bQ⟩⟩
 case round =>
  clear H'; obtain ⟨x5_1, x10_1, rfl, HA, HK1, HO_5, HB⟩ := hrel
  cases gk with
  | zero => exact absurd HA.out (by simp [impl_board.l0])
  | succ k1 =>
   have H := HA.out; clear HA
   simp only [impl_board.l0] at H
   by_cases c5 : x10_1 < a0
   ·rw [if_pos c5] at H; have c5b0 := dE c5; clear c5; have H' := aM H; clear H; go_wp2
    go_loopg [5, 14] k1 (fun kq v5 v14 w' => ∃ (x5_2 : List (S_impl_Peg)) (x14_2 : Int), v14 = .int .i64 x14_2 ∧ Aside0 (impl_board.l1 kq a1 x5_2 x10_1 a0 x10_1 a1 x14_2 = some r) ∧ Aside0 (kq ≤ k1) ∧ Aside0 (Kd.R kd_impl_Peg 54 w' w.heap.size (fun _ => True) v5 x5_2) ∧ Aside0 (Below w.heap.size w w'))
    case atStart => exact ⟨(x5_1), (0), eQ, H', ⟨Nat.le_refl _⟩, ⟨by (with_reducible repeat (first | apply rA | apply rN | apply rD)); exact HO_5.out⟩, ⟨bQ⟩⟩
    case round =>
     clear H'; (try clear c5); (try clear c5b0); obtain ⟨x5_2, x14_2, rfl, HA, HK2, HO_5, HB⟩ := hrel
     cases gk with
     | zero => exact absurd HA.out (by simp [impl_board.l1])
     | succ k2 =>
      have H := HA.out; clear HA
      simp only [impl_board.l1] at H
      by_cases c6 : x14_2 < a1
      ·rw [if_pos c6] at H; have c6b0 := dE c6; clear c6; replace H := iN H; obtain ⟨c7, H⟩ := H; have LMc7 := aM c7; clear c7; obtain ⟨y197, hy197⟩ : ∃ y_ : List (S_impl_Peg), y_ = (x5_2 ++ [(⟨x10_1, x14_2⟩ : S_impl_Peg)]) := ⟨_, rfl⟩; rw [← hy197] at H; have Ny197 := aM hy197; clear hy197; have H' := aM H; clear H
       go_wp2_with (first | ((with_reducible refine gate_builtin (b := .append) (xs := #[.tmp 17, .tmp 21]) rfl ?_); at_builtin; refine Kd.R_append kd_impl_Peg (w0 := w) w.heap.size rfl (.tmp 17) (.tmp 21) 38 54 (.agg #[(.int .i64 0), (.int .i64 0)]) 16 rfl Try.underlying38 info54 rfl (by decide) (by omega) u5 x5_2 (⟨x10_1, x14_2⟩ : S_impl_Peg) [.int .i64 x10_1, .int .i64 x14_2] (fun _ => True) (fun _ => False) rfl rfl ?aP (fun _ hk => hk.elim) ?aF ?aO ?aB ?aS ?aL ?_; (case aP => exact kd_impl_Peg_mkM _ _ _ (⟨x10_1, x14_2⟩ : S_impl_Peg)); (case aB => exact bQ); (case aF => exact (fun _ _ => trivial)); (case aO => exact (by (with_reducible repeat (first | apply rA | apply rN | apply rD)); exact HO_5.out)); (case aS => exact (pZ bQ)); (case aL => have := LMc7.out; omega); intro v198 w8 ho hb hg hat; rw [← Ny197.out] at ho; have n0_ := aM (hb); have n1_ := aM (ho); clear HB; clear HO_5; have HB := n0_; have HO199 := n1_; clear n0_ n1_; clear ho hb hg hat))
       go_roundg k2
       case measure => have := HK1.out; have := HK2.out; omega
       case rel => exact ⟨(y197), (wrap64 (x14_2 + 1)), eQ, H', ⟨by have := HK1.out; have := HK2.out; omega⟩, ⟨by (with_reducible repeat (first | apply rA | apply rN | apply rD)); exact HO199.out⟩, ⟨bQ⟩⟩
      ·rw [if_neg c6] at H; have c6b0 := decide_eq_false c6; clear c6; have H' := aM H; clear H; go_wp2
       go_roundg k2
       case measure => have := HK1.out; have := HK2.out; omega
       case rel => exact ⟨(x5_2), (wrap64 (x10_1 + 1)), eQ, H', ⟨by have := HK1.out; have := HK2.out; omega⟩, ⟨by (with_reducible repeat (first | apply rA | apply rN | apply rD)); exact HO_5.out⟩, ⟨bQ⟩⟩
   ·rw [if_neg c5] at H; have c5b0 := decide_eq_false c5; clear c5; obtain rfl := Option.some.inj H; go_wp2
    go_ret
    exact ⟨_, by first | rfl | (simp [errW_none, errW_some] <;> rfl) | (simp [*, errW_none, errW_some] <;> rfl), by (with_reducible repeat (first | apply rA | apply rN | apply rD)); exact HO_5.out, bQ⟩

def impl_cross.f (a0_0 : Int) (a0_1 : Int) (a1_0 : Int) (a1_1 : Int) : Option (Int) := some (wrap64 ((wrap64 (a0_0 * a1_1)) - (wrap64 (a0_1 * a1_0))))
set_option maxHeartbeats 8000000 in
set_option maxRecDepth 100000 in
theorem impl_cross.calls (a0_0 : Int) (a0_1 : Int) (a1_0 : Int) (a1_1 : Int) (r : Int) (w : World) (h : impl_cross.f a0_0 a0_1 a1_0 a1_1 = some r) :
  Calls Try.prog 68 #[.agg #[.int .i64 a0_0, .int .i64 a0_1], .agg #[.int .i64 a1_0, .int .i64 a1_1]] w fun e w' => e = .returned (.int .i64 r) ∧ Below w.heap.size w w' := by
 have hu54 := Try.underlying54; have HB := aM (Below.refl w.heap.size w)
 unfold impl_cross.f at h; have H := h; clear h
 obtain rfl := Option.some.inj H
 go_enter Try.func68, Try.ntmps68
 go_wp2_with (first | ((with_reducible refine gate_dst (N := 2) rfl ?_); refine bV 2 (cs := #[.int .i64 a0_0, .int .i64 a0_1]) (t := 54) rfl rfl (by first | (go_simp; done) | (go_simp; rfl)) ?_; intro gb200 hg w3 hbox hb; have BK200 := hbox; have GW200 := gZ HB hg; have GE200 := gZ HB hg; replace HB := tB HB hb; clear hb hbox hg) | ((with_reducible refine gate_dst (N := 3) rfl ?_); refine bV 3 (cs := #[.int .i64 a1_0, .int .i64 a1_1]) (t := 54) rfl rfl (by first | (go_simp; done) | (go_simp; rfl)) ?_; intro gb201 hg w4 hbox hb; have BK201 := hbox; have GW201 := gZ HB hg; have GE201 := gZ HB hg; have NB200_201 := nG BK200 hg; have NB201_200 := nH BK200 hg; replace BK200 := bB BK200 hb; replace HB := tB HB hb; clear hb hbox hg; have hnb5 := NB200_201.out; have hnc5 := NB201_200.out; have hcz6_0 := vZ0 BK200; have hcz6_1 := vZ1 BK200; have hfz6_0 := kF BK200.out 0; have hfz6_1 := kF BK200.out 1; have hcz7_0 := vZ0 BK201; have hcz7_1 := vZ1 BK201; have hfz7_0 := kF BK201.out 0; have hfz7_1 := kF BK201.out 1))
 go_ret
 exact ⟨wQ, bE⟩

def impl_size.f (a0 : Int) : Option (Int) := some (mx a0 (wrap64 (-a0)))
set_option maxHeartbeats 8000000 in
set_option maxRecDepth 100000 in
theorem impl_size.calls (a0 : Int) (r : Int) (w : World) (h : impl_size.f a0 = some r) :
  Calls Try.prog 67 #[.int .i64 a0] w fun e w' => e = .returned (.int .i64 r) ∧ Below w.heap.size w w' := by
 have HB := aM (Below.refl w.heap.size w)
 unfold impl_size.f at h; have H := h; clear h
 obtain ⟨ji2, hji2⟩ : ∃ j_ : Int, (mx a0 (wrap64 (-a0))) = j_ := ⟨_, rfl⟩
 (first | rw [hji2] at H | simp only [hji2] at H)
 have hji2_ : (if a0 < (wrap64 (-a0)) then (wrap64 (-a0)) else a0) = ji2 := hji2; obtain rfl := Option.some.inj H
 go_enter Try.func67, Try.ntmps67
 go_wp2
 go_ret
 exact ⟨by first | rfl | (simp [errW_none, errW_some] <;> rfl) | (simp only [← hji2]; first | rfl | (simp [errW_none, errW_some] <;> rfl)) | (simp [*, errW_none, errW_some] <;> rfl), bQ⟩

def impl_Peg_less.f (a0_0 : Int) (a0_1 : Int) (a1_0 : Int) (a1_1 : Int) : Option (Int × Int) := some (wrap64 (a0_0 - a1_0), wrap64 (a0_1 - a1_1))
set_option maxHeartbeats 8000000 in
set_option maxRecDepth 100000 in
theorem impl_Peg_less.calls (a0_0 : Int) (a0_1 : Int) (a1_0 : Int) (a1_1 : Int) (r1 : Int) (r2 : Int) (w : World) (h : impl_Peg_less.f a0_0 a0_1 a1_0 a1_1 = some (r1, r2)) :
  Calls Try.prog 69 #[.agg #[.int .i64 a0_0, .int .i64 a0_1], .agg #[.int .i64 a1_0, .int .i64 a1_1]] w fun e w' => e = .returned (.agg #[.int .i64 r1, .int .i64 r2]) ∧ Below w.heap.size w w' := by
 have hu54 := Try.underlying54; have HB := aM (Below.refl w.heap.size w)
 unfold impl_Peg_less.f at h; have H := h; clear h
 simp only [Option.some.injEq, Prod.mk.injEq] at H
 obtain ⟨rfl, rfl⟩ := H
 go_enter Try.func69, Try.ntmps69
 go_wp2_with (first | ((with_reducible refine gate_dst (N := 2) rfl ?_); refine bV 2 (cs := #[.int .i64 a0_0, .int .i64 a0_1]) (t := 54) rfl rfl (by first | (go_simp; done) | (go_simp; rfl)) ?_; intro gb202 hg w3 hbox hb; have BK202 := hbox; have GW202 := gZ HB hg; have GE202 := gZ HB hg; replace HB := tB HB hb; clear hb hbox hg) | ((with_reducible refine gate_dst (N := 3) rfl ?_); refine bV 3 (cs := #[.int .i64 a1_0, .int .i64 a1_1]) (t := 54) rfl rfl (by first | (go_simp; done) | (go_simp; rfl)) ?_; intro gb203 hg w4 hbox hb; have BK203 := hbox; have GW203 := gZ HB hg; have GE203 := gZ HB hg; have NB202_203 := nG BK202 hg; have NB203_202 := nH BK202 hg; replace BK202 := bB BK202 hb; replace HB := tB HB hb; clear hb hbox hg) | ((with_reducible refine gate_dst (N := 4) rfl ?_); refine bV 4 (cs := #[.int .i64 0, .int .i64 0]) (t := 54) rfl rfl (by first | (go_simp; done) | (go_simp; rfl)) ?_; intro gb204 hg w5 hbox hb; have BK204 := hbox; have GW204 := gZ HB hg; have GE204 := gZ HB hg; have NB202_204 := nG BK202 hg; have NB204_202 := nH BK202 hg; have NB203_204 := nG BK203 hg; have NB204_203 := nH BK203 hg; replace BK202 := bB BK202 hb; replace BK203 := bB BK203 hb; replace HB := tB HB hb; clear hb hbox hg; have hnb6 := NB202_203.out; have hnc6 := NB203_202.out; have hnb7 := NB202_204.out; have hnc7 := NB204_202.out; have hcz8_0 := vZ0 BK202; have hcz8_1 := vZ1 BK202; have hfz8_0 := kF BK202.out 0; have hfz8_1 := kF BK202.out 1; have hnb9 := NB203_204.out; have hnc9 := NB204_203.out; have hcz10_0 := vZ0 BK203; have hcz10_1 := vZ1 BK203; have hfz10_0 := kF BK203.out 0; have hfz10_1 := kF BK203.out 1; have hcz11_0 := vZ0 BK204; have hcz11_1 := vZ1 BK204; have hfz11_0 := kF BK204.out 0; have hfz11_1 := kF BK204.out 1))
 refine bodyPost_ret (results_cell_row rfl _ _ gb204 54 #[.int .i64 (wrap64 (a0_0 - a1_0)), .int .i64 (wrap64 (a0_1 - a1_1))] (0, 0) _ rfl (fQ BK204) Try.underlying54 rfl kR) rfl ?_
 exact ⟨wQ, bE⟩

def impl_Peg_square.f (a0_0 : Int) (a0_1 : Int) : Option (Int) := some (wrap64 ((wrap64 (a0_0 * a0_0)) + (wrap64 (a0_1 * a0_1))))
set_option maxHeartbeats 8000000 in
set_option maxRecDepth 100000 in
theorem impl_Peg_square.calls (a0_0 : Int) (a0_1 : Int) (r : Int) (w : World) (h : impl_Peg_square.f a0_0 a0_1 = some r) :
  Calls Try.prog 70 #[.agg #[.int .i64 a0_0, .int .i64 a0_1]] w fun e w' => e = .returned (.int .i64 r) ∧ Below w.heap.size w w' := by
 have hu54 := Try.underlying54; have HB := aM (Below.refl w.heap.size w)
 unfold impl_Peg_square.f at h; have H := h; clear h
 obtain rfl := Option.some.inj H
 go_enter Try.func70, Try.ntmps70
 go_wp2_with (first | ((with_reducible refine gate_dst (N := 1) rfl ?_); refine bV 1 (cs := #[.int .i64 a0_0, .int .i64 a0_1]) (t := 54) rfl rfl (by first | (go_simp; done) | (go_simp; rfl)) ?_; intro gb205 hg w2 hbox hb; have BK205 := hbox; have GW205 := gZ HB hg; have GE205 := gZ HB hg; replace HB := tB HB hb; clear hb hbox hg; have hcz3_0 := vZ0 BK205; have hcz3_1 := vZ1 BK205; have hfz3_0 := kF BK205.out 0; have hfz3_1 := kF BK205.out 1))
 go_ret
 exact ⟨wQ, bE⟩

def impl_divisor.l0 : Nat → Int → Int → Option (Int)
 | 0, _, _ => none
 | k + 1, x0, x1 => if x1 = 0 then ((impl_size.f x0).bind fun t206 => (some t206)) else (impl_divisor.l0 k x1 (Int.tmod x0 x1))
def impl_divisor.f (k : Nat) (a0 : Int) (a1 : Int) : Option (Int) := impl_divisor.l0 k a0 a1
theorem impl_divisor.mono_l : ∀ k, (∀ y0 y1, LeO (impl_divisor.l0 k y0 y1) (impl_divisor.l0 (k + 1) y0 y1))
 | 0 => fun _ _ r h => by simp [impl_divisor.l0] at h
 | k + 1 => by
  have ih0 := impl_divisor.mono_l k
  ·intro y0 y1
   unfold impl_divisor.l0
   repeat' first
   | (with_reducible exact ih0 _ _)
   | (with_reducible exact LeO.refl _)
   | (with_reducible exact LeO.none _)
   | (with_reducible refine LeO.ite ?_ ?_)
   | (with_reducible refine LeO.bind ?_ (fun _ => ?_))
   | exact ih0 _ _
   | exact LeO.none _
   | refine LeO.ite ?_ ?_
   | refine LeO.bind ?_ (fun _ => ?_)
theorem impl_divisor.mono : ∀ a0 a1 k, LeO (impl_divisor.f k a0 a1) (impl_divisor.f (k + 1) a0 a1) := by
 intro a0 a1 k
 have ih0 := impl_divisor.mono_l k
 unfold impl_divisor.f
 repeat' first | (with_reducible exact ih0 _ _) | (with_reducible exact LeO.refl _) | (with_reducible exact LeO.none _) | (with_reducible refine LeO.ite ?_ ?_) | (with_reducible refine LeO.bind ?_ (fun _ => ?_)) | exact ih0 _ _ | exact LeO.none _ | refine LeO.ite ?_ ?_ | refine LeO.bind ?_ (fun _ => ?_)
set_option maxHeartbeats 8000000 in
set_option maxRecDepth 100000 in
theorem impl_divisor.calls (k : Nat) (a0 : Int) (a1 : Int) (r : Int) (w : World) (h : impl_divisor.f k a0 a1 = some r) :
  Calls Try.prog 74 #[.int .i64 a0, .int .i64 a1] w fun e w' => e = .returned (.int .i64 r) ∧ Below w.heap.size w w' := by
 have HB := aM (Below.refl w.heap.size w)
 unfold impl_divisor.f at h; have H := h; clear h
 have H' := aM H; clear H
 go_enter Try.func74, Try.ntmps74
 go_wp2
 repeat (go_quiet (fail); try go_wp2)
 go_loopg [0, 1] k (fun kq v0 v1 w' => ∃ (x0_1 : Int) (x1_1 : Int), v0 = .int .i64 x0_1 ∧ v1 = .int .i64 x1_1 ∧ Aside0 (impl_divisor.l0 kq x0_1 x1_1 = some r) ∧ Aside0 (kq ≤ k) ∧ Aside0 (Below w.heap.size w w'))
 case atStart => exact ⟨(a0), (a1), eQ, eQ, H', ⟨Nat.le_refl _⟩, ⟨bQ⟩⟩
 case round =>
  clear H'; obtain ⟨x0_1, x1_1, rfl, rfl, HA, HK1, HB⟩ := hrel
  cases gk with
  | zero => exact absurd HA.out (by simp [impl_divisor.l0])
  | succ k1 =>
   have H := HA.out; clear HA
   simp only [impl_divisor.l0] at H
   by_cases c3 : x1_1 = 0
   ·rw [if_pos c3] at H; have c3b0 : (x1_1 == 0) = true := beq_iff_eq.mpr c3; have c3b1 : (x1_1 != 0) = false := bne_eq_false_iff_eq.mpr c3; clear c3; replace H := bS H; obtain ⟨t206, A4, H⟩ := H; obtain rfl := Option.some.inj H
    go_wp2_with (first | (go_at_call 67; (with_reducible refine (impl_size.calls x0_1 t206 _ A4.out).mono ?_); rintro e w5 ⟨rfl, hb⟩; replace HB := tB HB hb; (try clear hb); (try clear hb2); (try clear hk); (try clear hi)))
    repeat (go_quiet (first | (go_at_call 67; (with_reducible refine (impl_size.calls x0_1 t206 _ A4.out).mono ?_); rintro e w5 ⟨rfl, hb⟩; have n0_ := tB HB hb; clear HB; have HB := n0_; clear n0_; (try clear hb); (try clear hb2); (try clear hk); (try clear hi))); try go_wp2_with (first | (go_at_call 67; (with_reducible refine (impl_size.calls x0_1 t206 _ A4.out).mono ?_); rintro e w5 ⟨rfl, hb⟩; have n0_ := tB HB hb; clear HB; have HB := n0_; clear n0_; (try clear hb); (try clear hb2); (try clear hk); (try clear hi))))
    go_ret
    exact ⟨wQ, bQ⟩
   ·rw [if_neg c3] at H; have c3b0 : (x1_1 == 0) = false := beq_eq_false_iff_ne.mpr c3; have c3b1 : (x1_1 != 0) = true := bne_iff_ne.mpr c3; have H' := aM H; clear H; go_wp2
    repeat (go_quiet (fail); try go_wp2)
    go_roundg k1
    case measure => have := HK1.out; omega
    case rel => exact ⟨(x1_1), (Int.tmod x0_1 x1_1), eQ, eQ, H', ⟨by have := HK1.out; omega⟩, ⟨bQ⟩⟩

def impl_steps.f (k : Nat) (a0_0 : Int) (a0_1 : Int) (a1_0 : Int) (a1_1 : Int) : Option (Int) := (impl_divisor.f k (wrap64 (a0_0 - a1_0)) (wrap64 (a0_1 - a1_1))).bind fun t209 => (some t209)
theorem impl_steps.mono : ∀ a0 a1 a2 a3 k, LeO (impl_steps.f k a0 a1 a2 a3) (impl_steps.f (k + 1) a0 a1 a2 a3) := by
 intro a0 a1 a2 a3 k
 unfold impl_steps.f
 repeat' first | (with_reducible exact impl_divisor.mono _ _ _) | (with_reducible exact LeO.refl _) | (with_reducible exact LeO.none _) | (with_reducible refine LeO.ite ?_ ?_) | (with_reducible refine LeO.bind ?_ (fun _ => ?_)) | exact impl_divisor.mono _ _ _ | exact LeO.none _ | refine LeO.ite ?_ ?_ | refine LeO.bind ?_ (fun _ => ?_)
set_option maxHeartbeats 8000000 in
set_option maxRecDepth 100000 in
theorem impl_steps.calls (k : Nat) (a0_0 : Int) (a0_1 : Int) (a1_0 : Int) (a1_1 : Int) (r : Int) (w : World) (h : impl_steps.f k a0_0 a0_1 a1_0 a1_1 = some r) :
  Calls Try.prog 71 #[.agg #[.int .i64 a0_0, .int .i64 a0_1], .agg #[.int .i64 a1_0, .int .i64 a1_1]] w fun e w' => e = .returned (.int .i64 r) ∧ Below w.heap.size w w' := by
 have hu54 := Try.underlying54; have HB := aM (Below.refl w.heap.size w)
 unfold impl_steps.f at h; have H := h; clear h
 replace H := bS H; obtain ⟨t209, A3, H⟩ := H; obtain rfl := Option.some.inj H
 go_enter Try.func71, Try.ntmps71
 go_wp2_with (first | ((with_reducible refine gate_dst (N := 2) rfl ?_); refine bV 2 (cs := #[.int .i64 a0_0, .int .i64 a0_1]) (t := 54) rfl rfl (by first | (go_simp; done) | (go_simp; rfl)) ?_; intro gb207 hg w4 hbox hb; have BK207 := hbox; have GW207 := gZ HB hg; have GE207 := gZ HB hg; replace HB := tB HB hb; clear hb hbox hg) | ((with_reducible refine gate_dst (N := 3) rfl ?_); refine bV 3 (cs := #[.int .i64 a1_0, .int .i64 a1_1]) (t := 54) rfl rfl (by first | (go_simp; done) | (go_simp; rfl)) ?_; intro gb208 hg w5 hbox hb; have BK208 := hbox; have GW208 := gZ HB hg; have GE208 := gZ HB hg; have NB207_208 := nG BK207 hg; have NB208_207 := nH BK207 hg; replace BK207 := bB BK207 hb; replace HB := tB HB hb; clear hb hbox hg; have hnb6 := NB207_208.out; have hnc6 := NB208_207.out; have hcz7_0 := vZ0 BK207; have hcz7_1 := vZ1 BK207; have hfz7_0 := kF BK207.out 0; have hfz7_1 := kF BK207.out 1; have hcz8_0 := vZ0 BK208; have hcz8_1 := vZ1 BK208; have hfz8_0 := kF BK208.out 0; have hfz8_1 := kF BK208.out 1) | ((with_reducible refine gC (f := 74) rfl ?_); refine goesL_ (some 15) rfl rfl Try.func74 kR rfl #[.int .i64 (wrap64 (a0_0 - a1_0)), .int .i64 (wrap64 (a0_1 - a1_1))] rfl sQ ?_; (with_reducible refine (impl_divisor.calls k (wrap64 (a0_0 - a1_0)) (wrap64 (a0_1 - a1_1)) t209 _ A3.out).mono ?_); rintro e w9 ⟨rfl, hb⟩; refine ⟨_, rfl, ?_⟩; replace BK207 := bB BK207 hb; replace BK208 := bB BK208 hb; replace HB := tB HB hb; (try clear hb); (try clear hb2); (try clear hk); (try clear hi)))
 go_ret
 exact ⟨wQ, bE⟩

end Go.Proofs.Ytajfdfaembcodaa.X
