-- thin
-- short
-- compact
import Derived.Test.YtoeclfihlhmnpaaXA
import Derived.Test.YtoeclfihlhmnpaaX0
import Derived.Test.YtoeclfihlhmnpaaX1
import Derived.Test.YtoeclfihlhmnpaaX9
namespace Go.Proofs.Ytoeclfihlhmnpaa.X
open Go.RowKit Go.Proofs.Ytoeclfihlhmnpaa.XW Go.Proofs.YtoeclfihlhmnpaaW.PrintWords Go.Proofs.YtoeclfihlhmnpaaW.PrintLast Go.Proofs.YtoeclfihlhmnpaaW.PrintMore
attribute [local go_sem] max2_int min2_int max_two min_two max_three min_three max_four min_four   -- for this text's walks alone
set_option linter.unusedVariables false
set_option linter.unusedSimpArgs false

attribute [local go_sem high] eqA48
def impl_fits.f (k : Nat) (a0_0 : Int) (a0_1 : Int) (a0_2 : Int) (a0_3 : Int) (a1_0 : Int) (a1_1 : Int) : Option (Bool) := (impl_asHas.f k a0_0 a0_1 a0_2 a0_3 a1_0 a1_1).bind fun bt297 => (some (bt297.1 == a0_0 && (bt297.2.1 == a0_1 && (bt297.2.2.1 == a0_2 && (bt297.2.2.2 == a0_3)))))
theorem impl_fits.mono : ∀ a0 a1 a2 a3 a4 a5 k, LeO (impl_fits.f k a0 a1 a2 a3 a4 a5) (impl_fits.f (k + 1) a0 a1 a2 a3 a4 a5) := by
 intro a0 a1 a2 a3 a4 a5 k
 unfold impl_fits.f
 repeat' first | (with_reducible exact impl_asHas.mono _ _ _ _ _ _ _) | (with_reducible exact LeO.refl _) | (with_reducible exact LeO.none _) | (with_reducible refine LeO.ite ?_ ?_) | (with_reducible refine LeO.bind ?_ (fun _ => ?_)) | exact impl_asHas.mono _ _ _ _ _ _ _ | exact LeO.none _ | refine LeO.ite ?_ ?_ | refine LeO.bind ?_ (fun _ => ?_)
set_option maxHeartbeats 8000000 in
set_option maxRecDepth 100000 in
theorem impl_fits.calls (k : Nat) (a0_0 : Int) (a0_1 : Int) (a0_2 : Int) (a0_3 : Int) (a1_0 : Int) (a1_1 : Int) (r : Bool) (w : World) (h : impl_fits.f k a0_0 a0_1 a0_2 a0_3 a1_0 a1_1 = some r) :
  Calls Try.prog 65 #[.agg #[.int .i64 a0_0, .int .i64 a0_1, .int .i64 a0_2, .int .i64 a0_3], .agg #[.int .i64 a1_0, .int .i64 a1_1]] w fun e w' => e = .returned (.bool r) ∧ Below w.heap.size w w' := by
 have hu48 := Try.underlying48; have hu41 := Try.underlying41; have HB := aM (Below.refl w.heap.size w)
 unfold impl_fits.f at h; have H := h; clear h
 replace H := bS H; obtain ⟨⟨t297, t298, t299, t300⟩, A3, H⟩ := H; obtain rfl := Option.some.inj H
 go_enter Try.func65, Try.ntmps65
 try go_wp2_with (first | ((with_reducible refine gate_dst (N := 2) rfl ?_); refine bV 2 (cs := #[.int .i64 a0_0, .int .i64 a0_1, .int .i64 a0_2, .int .i64 a0_3]) (t := 48) rfl rfl (by first | (go_simp; done) | (go_simp; rfl)) ?_; intro gb295 hg w4 hbox hb; have BK295 := hbox; have GW295 := gZ HB hg; have GE295 := gZ HB hg; replace HB := tB HB hb; clear hb hbox hg) | ((with_reducible refine gate_dst (N := 3) rfl ?_); refine bV 3 (cs := #[.int .i64 a1_0, .int .i64 a1_1]) (t := 41) rfl rfl (by first | (go_simp; done) | (go_simp; rfl)) ?_; intro gb296 hg w5 hbox hb; have BK296 := hbox; have GW296 := gZ HB hg; have GE296 := gZ HB hg; have NB295_296 := nG BK295 hg; have NB296_295 := nH BK295 hg; replace BK295 := bB BK295 hb; replace HB := tB HB hb; clear hb hbox hg))
 replace BK295 := aM (kD BK295.out); replace BK296 := aM (kD BK296.out); replace HB := aM (pD HB.out)
 refine start_ (n := 6) (S := fun w' => w'.cell? ⟨gb295, 0, none⟩ = some (.int .i64 a0_0) ∧ w'.cell? ⟨gb295, 1, none⟩ = some (.int .i64 a0_1) ∧ w'.cell? ⟨gb295, 2, none⟩ = some (.int .i64 a0_2) ∧ w'.cell? ⟨gb295, 3, none⟩ = some (.int .i64 a0_3) ∧ w'.cell? ⟨gb296, 0, none⟩ = some (.int .i64 a1_0) ∧ w'.cell? ⟨gb296, 1, none⟩ = some (.int .i64 a1_1)) (ds := []) (bA 6 0) kR rfl kR ⟨vZ0 BK295, vZ1 BK295, vZ2 BK295, vZ3 BK295, vZ0 BK296, vZ1 BK296⟩ (fun hHeld => ?_)
 generalize w5.drew = w6 at BK295 BK296 HB hHeld ⊢
 refine take_ (i := 0) (N := some 5) (v := ?_) (a' := ?_) (bA 6 1) rfl rfl kR (fun _ _ _ h => h) (Or.inl ⟨by rfl, ?_⟩) hHeld ?_ ?_
 rotate_left
 ·rintro w' ⟨s0, s1, s2, s3, s4, s5⟩
  go_simp
  with_reducible rfl
 rotate_left
 ·simp only [Act.put, sI, sZ, sS, i64_w, i32_w]
  rfl
 refine take_ (i := 1) (N := some 6) (v := ?_) (a' := ?_) (bA 6 3) rfl rfl kR (fun _ _ _ h => h) (Or.inl ⟨by rfl, ?_⟩) hHeld ?_ ?_
 rotate_left
 ·rintro w' ⟨s0, s1, s2, s3, s4, s5⟩
  go_simp
  with_reducible rfl
 rotate_left
 ·simp only [Act.put, sI, sZ, sS, i64_w, i32_w]
  rfl
 refine take_ (i := 3) (N := some 8) (v := ?_) (a' := ?_) (bA 6 11) rfl rfl kR (fun _ _ _ h => h) (Or.inl ⟨by rfl, ?_⟩) hHeld ?_ ?_
 rotate_left
 ·rintro w' ⟨s0, s1, s2, s3, s4, s5⟩
  go_simp
  with_reducible rfl
 rotate_left
 ·simp only [Act.put, sI, sZ, sS, i64_w, i32_w]
  rfl
 refine one_ (i := 2) (N := some 7) (bA 6 15) rfl rfl kR (by decide) (fun K hK => ?_)
 refine goes_ Try.func56 kR rfl #[.agg #[.int .i64 a0_0, .int .i64 a0_1, .int .i64 a0_2, .int .i64 a0_3], .agg #[.int .i64 a1_0, .int .i64 a1_1]] (by rfl) rfl rfl sQ ?_
 with_reducible refine (impl_asHas.calls k a0_0 a0_1 a0_2 a0_3 a1_0 a1_1 t297 t298 t299 t300 _ A3.out).mono ?_
 rintro e w7 ⟨rfl, hb⟩; refine ⟨_, rfl, ?_⟩; replace BK295 := bB BK295 hb; replace BK296 := bB BK296 hb; replace HB := tB HB hb; (try clear hb); (try clear hb2); (try clear hk); (try clear hi)
 refine hK.out _ _ ⟨vZ0 BK295, vZ1 BK295, vZ2 BK295, vZ3 BK295, vZ0 BK296, vZ1 BK296⟩ (fun hHeld => ?_)
 clear hK K
 refine nU ?_
 refine pure_ (i := 4) (N := some 9) (v := ?_) (a' := ?_) (bA 6 31) rfl rfl kR (fun _ _ _ h => h) (Or.inl ⟨by rfl, ?_⟩) ?_ ?_
 rotate_left
 ·intro w'
  go_simp
  with_reducible rfl
 rotate_left
 ·simp only [Act.put, sI, sZ, sS, i64_w, i32_w]
  rfl
 refine pure_ (i := 5) (N := some 4) (v := ?_) (a' := ?_) (bA 6 63) rfl rfl kR (fun _ _ _ h => h) (Or.inl ⟨by rfl, ?_⟩) ?_ ?_
 rotate_left
 ·intro w'
  go_simp
  with_reducible rfl
 rotate_left
 ·simp only [Act.put, sI, sZ, sS, i64_w, i32_w]
  rfl
 refine done_ kR ?_
 try go_wp2
 go_ret
 exact ⟨wQ, bE⟩

def impl_Puzzle_solutions_1_1.f (k : Nat) (a0_0 : Int) (a0_1 : Int) (a0_2 : Int) (a0_3 : Int) (a1_0 : Int) (a1_1 : Int) : Option (Bool) := (impl_fits.f k a0_0 a0_1 a0_2 a0_3 a1_0 a1_1).bind fun t302 => (some (!t302))
theorem impl_Puzzle_solutions_1_1.mono : ∀ a0 a1 a2 a3 a4 a5 k, LeO (impl_Puzzle_solutions_1_1.f k a0 a1 a2 a3 a4 a5) (impl_Puzzle_solutions_1_1.f (k + 1) a0 a1 a2 a3 a4 a5) := by
 intro a0 a1 a2 a3 a4 a5 k
 unfold impl_Puzzle_solutions_1_1.f
 repeat' first | (with_reducible exact impl_fits.mono _ _ _ _ _ _ _) | (with_reducible exact LeO.refl _) | (with_reducible exact LeO.none _) | (with_reducible refine LeO.ite ?_ ?_) | (with_reducible refine LeO.bind ?_ (fun _ => ?_)) | exact impl_fits.mono _ _ _ _ _ _ _ | exact LeO.none _ | refine LeO.ite ?_ ?_ | refine LeO.bind ?_ (fun _ => ?_)
set_option maxHeartbeats 8000000 in
set_option maxRecDepth 100000 in
theorem impl_Puzzle_solutions_1_1.calls (k : Nat) (a0_0 : Int) (a0_1 : Int) (a0_2 : Int) (a0_3 : Int) (gx1 : Nat) (a1_0 : Int) (a1_1 : Int) (r : Bool) (w : World) (hbx1 : w.heap[gx1]? = some (.cells #[.int .i64 a1_0, .int .i64 a1_1] 41 (0, 0))) (h : impl_Puzzle_solutions_1_1.f k a0_0 a0_1 a0_2 a0_3 a1_0 a1_1 = some r) :
  Calls Try.prog 101 #[.agg #[.int .i64 a0_0, .int .i64 a0_1, .int .i64 a0_2, .int .i64 a0_3], .pointer (some ⟨gx1, 0, none⟩)] w fun e w' => e = .returned (.bool r) ∧ Below w.heap.size w w' := by
 have hu48 := Try.underlying48; have hu41 := Try.underlying41; have BK1 := aM hbx1; clear hbx1; have HB := aM (Below.refl w.heap.size w)
 unfold impl_Puzzle_solutions_1_1.f at h; have H := h; clear h
 replace H := bS H; obtain ⟨t302, A3, H⟩ := H; obtain rfl := Option.some.inj H
 go_enter Try.func101, Try.ntmps101
 go_wp2_with (first | ((with_reducible refine gate_dst (N := 2) rfl ?_); refine bV 2 (cs := #[.int .i64 a0_0, .int .i64 a0_1, .int .i64 a0_2, .int .i64 a0_3]) (t := 48) rfl rfl (by first | (go_simp; done) | (go_simp; rfl)) ?_; intro gb301 hg w4 hbox hb; have BK301 := hbox; have GW301 := gZ HB hg; have GE301 := gZ HB hg; have NB1_301 := aM ((by rw [hg]; exact nN (blk_lt (g := gx1) (o := .cells #[.int .i64 a1_0, .int .i64 a1_1] 41 (0, 0)) (gQ BK1)) : gx1 ≠ gb301)); have NB301_1 := aM ((by rw [hg]; exact Nat.ne_of_gt (blk_lt (g := gx1) (o := .cells #[.int .i64 a1_0, .int .i64 a1_1] 41 (0, 0)) (gQ BK1)) : gb301 ≠ gx1)); replace BK1 := aM (blk_below (g := gx1) (o := .cells #[.int .i64 a1_0, .int .i64 a1_1] 41 (0, 0)) (gQ BK1) hb); replace HB := tB HB hb; clear hb hbox hg; have hnb5 := NB301_1.out; have hnc5 := NB1_301.out; have hcz6_0 := vZ0 BK301; have hcz6_1 := vZ1 BK301; have hcz6_2 := vZ2 BK301; have hcz6_3 := vZ3 BK301; have hfz6_0 := kF BK301.out 0; have hfz6_1 := kF BK301.out 1; have hfz6_2 := kF BK301.out 2; have hfz6_3 := kF BK301.out 3; have hcz7_0 : w4.cell? ⟨gx1, 0, none⟩ = some (.int .i64 a1_0) := vZ0 BK1; have hcz7_1 : w4.cell? ⟨gx1, 1, none⟩ = some (.int .i64 a1_1) := vZ1 BK1; have hfz7_0 := kF BK1.out 0; have hfz7_1 := kF BK1.out 1) | ((with_reducible refine gC (f := 65) rfl ?_); refine goesL_ (some 6) rfl rfl Try.func65 kR rfl #[.agg #[.int .i64 a0_0, .int .i64 a0_1, .int .i64 a0_2, .int .i64 a0_3], .agg #[.int .i64 a1_0, .int .i64 a1_1]] rfl sQ ?_; (with_reducible refine (impl_fits.calls k a0_0 a0_1 a0_2 a0_3 a1_0 a1_1 t302 _ A3.out).mono ?_); rintro e w8 ⟨rfl, hb⟩; refine ⟨_, rfl, ?_⟩; replace BK1 := aM (blk_below (g := gx1) (o := .cells #[.int .i64 a1_0, .int .i64 a1_1] 41 (0, 0)) (gQ BK1) hb); replace BK301 := bB BK301 hb; replace HB := tB HB hb; (try clear hb); (try clear hb2); (try clear hk); (try clear hi)))
 go_ret
 exact ⟨wQ, bE⟩

def slices_IndexFunc_impl_Clue_at_impl_Puzzle_solutions_1_1.l0 : Nat → List (S_impl_Clue) → Int → Int → Int → Int → Option (Int)
 | 0, _, _, _, _, _ => none
 | k + 1, x0, x7, x8, x2000, x2001 => if x8 < x7 then (if 0 ≤ x8 then (if x8 < (x0.length : Int) then ((impl_Puzzle_solutions_1_1.f k ((rd_impl_Clue x0 x8).f0) ((rd_impl_Clue x0 x8).f1) ((rd_impl_Clue x0 x8).f2) ((rd_impl_Clue x0 x8).f3) x2000 x2001).bind fun t304 => (if t304 = true then (some x8) else (slices_IndexFunc_impl_Clue_at_impl_Puzzle_solutions_1_1.l0 k x0 x7 (wrap64 (x8 + 1)) x2000 x2001))) else (none)) else (none)) else (some (-1))
def slices_IndexFunc_impl_Clue_at_impl_Puzzle_solutions_1_1.f (k : Nat) (l0 : List (S_impl_Clue)) (a1_0 : Int) (a1_1 : Int) : Option (Int) := slices_IndexFunc_impl_Clue_at_impl_Puzzle_solutions_1_1.l0 k l0 (l0.length : Int) 0 a1_0 a1_1
theorem slices_IndexFunc_impl_Clue_at_impl_Puzzle_solutions_1_1.mono_l : ∀ k, (∀ y0 y1 y2 y3 y4, LeO (slices_IndexFunc_impl_Clue_at_impl_Puzzle_solutions_1_1.l0 k y0 y1 y2 y3 y4) (slices_IndexFunc_impl_Clue_at_impl_Puzzle_solutions_1_1.l0 (k + 1) y0 y1 y2 y3 y4))
 | 0 => fun _ _ _ _ _ r h => by simp [slices_IndexFunc_impl_Clue_at_impl_Puzzle_solutions_1_1.l0] at h
 | k + 1 => by
  have ih0 := slices_IndexFunc_impl_Clue_at_impl_Puzzle_solutions_1_1.mono_l k
  ·intro y0 y1 y2 y3 y4
   unfold slices_IndexFunc_impl_Clue_at_impl_Puzzle_solutions_1_1.l0
   repeat' first
   | (with_reducible exact ih0 _ _ _ _ _)
   | (with_reducible exact impl_Puzzle_solutions_1_1.mono _ _ _ _ _ _ _)
   | (with_reducible exact LeO.refl _)
   | (with_reducible exact LeO.none _)
   | (with_reducible refine LeO.ite ?_ ?_)
   | (with_reducible refine LeO.bind ?_ (fun _ => ?_))
   | exact ih0 _ _ _ _ _
   | exact impl_Puzzle_solutions_1_1.mono _ _ _ _ _ _ _
   | exact LeO.none _
   | refine LeO.ite ?_ ?_
   | refine LeO.bind ?_ (fun _ => ?_)
theorem slices_IndexFunc_impl_Clue_at_impl_Puzzle_solutions_1_1.mono : ∀ a0 a1 a2 k, LeO (slices_IndexFunc_impl_Clue_at_impl_Puzzle_solutions_1_1.f k a0 a1 a2) (slices_IndexFunc_impl_Clue_at_impl_Puzzle_solutions_1_1.f (k + 1) a0 a1 a2) := by
 intro a0 a1 a2 k
 have ih0 := slices_IndexFunc_impl_Clue_at_impl_Puzzle_solutions_1_1.mono_l k
 unfold slices_IndexFunc_impl_Clue_at_impl_Puzzle_solutions_1_1.f
 repeat' first | (with_reducible exact ih0 _ _ _ _ _) | (with_reducible exact impl_Puzzle_solutions_1_1.mono _ _ _ _ _ _ _) | (with_reducible exact LeO.refl _) | (with_reducible exact LeO.none _) | (with_reducible refine LeO.ite ?_ ?_) | (with_reducible refine LeO.bind ?_ (fun _ => ?_)) | exact ih0 _ _ _ _ _ | exact impl_Puzzle_solutions_1_1.mono _ _ _ _ _ _ _ | exact LeO.none _ | refine LeO.ite ?_ ?_ | refine LeO.bind ?_ (fun _ => ?_)
set_option maxHeartbeats 8000000 in
set_option maxRecDepth 100000 in
theorem slices_IndexFunc_impl_Clue_at_impl_Puzzle_solutions_1_1.calls (k : Nat) (A0 : Option Addr) (c0 : Nat) (l0 : List (S_impl_Clue)) (gx1 : Nat) (a1_0 : Int) (a1_1 : Int) (r : Int) (w : World) (hr0 : Kd.C kd_impl_Clue w A0 l0.length l0) (hc0 : l0.length ≤ c0) (hbx1 : w.heap[gx1]? = some (.cells #[.int .i64 a1_0, .int .i64 a1_1] 41 (0, 0))) (h : slices_IndexFunc_impl_Clue_at_impl_Puzzle_solutions_1_1.f k l0 a1_0 a1_1 = some r) :
  Calls Try.prog 95 #[.slice A0 l0.length c0, .func (.func 101) #[] #[.pointer (some ⟨gx1, 0, none⟩)]] w fun e w' => e = .returned (.int .i64 r) ∧ Below w.heap.size w w' := by
 have hu48 := Try.underlying48; have HR0 := aM hr0; have HC0 := aM hc0; clear hr0 hc0; have BK1 := aM hbx1; clear hbx1; have HB := aM (Below.refl w.heap.size w)
 unfold slices_IndexFunc_impl_Clue_at_impl_Puzzle_solutions_1_1.f at h; have H := h; clear h
 have H' := aM H; clear H
 go_enter Try.func95, Try.ntmps95
 go_wp2
 go_loopg [8] k (fun kq v8 w' => ∃ (x8_1 : Int), v8 = .int .i64 x8_1 ∧ Aside0 (slices_IndexFunc_impl_Clue_at_impl_Puzzle_solutions_1_1.l0 kq l0 (l0.length : Int) x8_1 a1_0 a1_1 = some r) ∧ Aside0 (kq ≤ k) ∧ Aside0 (w'.heap[gx1]? = some (.cells #[.int .i64 a1_0, .int .i64 a1_1] 41 (0, 0))) ∧ Aside0 (Below w.heap.size w w'))
 case atStart => exact ⟨(0), eQ, H', ⟨Nat.le_refl _⟩, ⟨gQ BK1⟩, ⟨bE⟩⟩
 case round =>
  clear H'; obtain ⟨x8_1, rfl, HA, HK1, BK1, HB⟩ := hrel
  cases gk with
  | zero => exact absurd HA.out (by simp [slices_IndexFunc_impl_Clue_at_impl_Puzzle_solutions_1_1.l0])
  | succ k1 =>
   have H := HA.out; clear HA
   simp only [slices_IndexFunc_impl_Clue_at_impl_Puzzle_solutions_1_1.l0] at H
   by_cases c3 : x8_1 < (l0.length : Int)
   ·rw [if_pos c3] at H; have c3b0 := dE c3; clear c3; replace H := iD H; obtain ⟨c4b0, H⟩ := H; replace H := iD H; obtain ⟨c5b0, H⟩ := H; replace H := bS H; obtain ⟨t304, A6, H⟩ := H
    by_cases c7 : t304 = true
    ·subst c7; replace H := iT H; obtain rfl := Option.some.inj H; have p303 : 0 ≤ (x8_1 : Int) := dT aQ; have q303 : x8_1 < (l0.length : Int) := dT aQ; obtain ⟨ad303, e303, hx303_0, hx303_1, hx303_2, hx303_3⟩ := at_impl_Clue HR0.out x8_1 p303 q303
     cases e303
     replace hx303_0 := hC HB hx303_0; replace hx303_1 := hC HB hx303_1; replace hx303_2 := hC HB hx303_2; replace hx303_3 := hC HB hx303_3; replace p303 := eq_true p303; replace q303 := eq_true q303
     go_wp2_with (first | ((with_reducible refine gate_tmp rfl ?_); refine goesLTC_ (some 16) rfl rfl Try.func101 kR rfl #[.agg #[.int .i64 ((rd_impl_Clue l0 x8_1).f0), .int .i64 ((rd_impl_Clue l0 x8_1).f1), .int .i64 ((rd_impl_Clue l0 x8_1).f2), .int .i64 ((rd_impl_Clue l0 x8_1).f3)], .pointer (some ⟨gx1, 0, none⟩)] #[] #[.pointer (some ⟨gx1, 0, none⟩)] rfl (by first | rfl | (simp [Act.eval]; done)) (by (try simp only [mA, mC, mN, List.append_toArray, List.nil_append, List.cons_append, List.append_nil]); (try simp only [mA, mC, mN]); first | done | rfl | (simp only [lD, lT]; rfl)) ?_; (with_reducible refine (impl_Puzzle_solutions_1_1.calls k1 ((rd_impl_Clue l0 x8_1).f0) ((rd_impl_Clue l0 x8_1).f1) ((rd_impl_Clue l0 x8_1).f2) ((rd_impl_Clue l0 x8_1).f3) gx1 a1_0 a1_1 true _ ?side1 A6.out).mono ?_); (case side1 => exact (gQ BK1)); rintro e w8 ⟨rfl, hb⟩; refine ⟨_, rfl, ?_⟩; replace BK1 := aM (blk_below (g := gx1) (o := .cells #[.int .i64 a1_0, .int .i64 a1_1] 41 (0, 0)) (gQ BK1) hb); replace HB := tB HB hb; (try clear hb); (try clear hb2); (try clear hk); (try clear hi)))
     go_ret
     exact ⟨wQ, bE⟩
    ·replace c7 := Bool.eq_false_iff.mpr c7; subst c7; replace H := iF H; have H' := aM H; clear H; have p303 : 0 ≤ (x8_1 : Int) := dT aQ; have q303 : x8_1 < (l0.length : Int) := dT aQ; obtain ⟨ad303, e303, hx303_0, hx303_1, hx303_2, hx303_3⟩ := at_impl_Clue HR0.out x8_1 p303 q303
     cases e303
     replace hx303_0 := hC HB hx303_0; replace hx303_1 := hC HB hx303_1; replace hx303_2 := hC HB hx303_2; replace hx303_3 := hC HB hx303_3; replace p303 := eq_true p303; replace q303 := eq_true q303
     go_wp2_with (first | ((with_reducible refine gate_tmp rfl ?_); refine goesLTC_ (some 16) rfl rfl Try.func101 kR rfl #[.agg #[.int .i64 ((rd_impl_Clue l0 x8_1).f0), .int .i64 ((rd_impl_Clue l0 x8_1).f1), .int .i64 ((rd_impl_Clue l0 x8_1).f2), .int .i64 ((rd_impl_Clue l0 x8_1).f3)], .pointer (some ⟨gx1, 0, none⟩)] #[] #[.pointer (some ⟨gx1, 0, none⟩)] rfl (by first | rfl | (simp [Act.eval]; done)) (by (try simp only [mA, mC, mN, List.append_toArray, List.nil_append, List.cons_append, List.append_nil]); (try simp only [mA, mC, mN]); first | done | rfl | (simp only [lD, lT]; rfl)) ?_; (with_reducible refine (impl_Puzzle_solutions_1_1.calls k1 ((rd_impl_Clue l0 x8_1).f0) ((rd_impl_Clue l0 x8_1).f1) ((rd_impl_Clue l0 x8_1).f2) ((rd_impl_Clue l0 x8_1).f3) gx1 a1_0 a1_1 false _ ?side1 A6.out).mono ?_); (case side1 => exact (gQ BK1)); rintro e w9 ⟨rfl, hb⟩; refine ⟨_, rfl, ?_⟩; replace BK1 := aM (blk_below (g := gx1) (o := .cells #[.int .i64 a1_0, .int .i64 a1_1] 41 (0, 0)) (gQ BK1) hb); replace HB := tB HB hb; (try clear hb); (try clear hb2); (try clear hk); (try clear hi)))
     go_roundg k1
     case measure => have := HK1.out; omega
     case rel => exact ⟨(wrap64 (x8_1 + 1)), eQ, H', ⟨by have := HK1.out; omega⟩, ⟨gQ BK1⟩, ⟨bE⟩⟩
   ·rw [if_neg c3] at H; have c3b0 := decide_eq_false c3; clear c3; obtain rfl := Option.some.inj H; go_wp2
    go_ret
    exact ⟨wQ, bE⟩

def slices_ContainsFunc_impl_Clue_at_impl_Puzzle_solutions_1_1.f (k : Nat) (l0 : List (S_impl_Clue)) (a1_0 : Int) (a1_1 : Int) : Option (Bool) := (slices_IndexFunc_impl_Clue_at_impl_Puzzle_solutions_1_1.f k l0 a1_0 a1_1).bind fun t305 => (some (decide (t305 ≥ 0)))
theorem slices_ContainsFunc_impl_Clue_at_impl_Puzzle_solutions_1_1.mono : ∀ a0 a1 a2 k, LeO (slices_ContainsFunc_impl_Clue_at_impl_Puzzle_solutions_1_1.f k a0 a1 a2) (slices_ContainsFunc_impl_Clue_at_impl_Puzzle_solutions_1_1.f (k + 1) a0 a1 a2) := by
 intro a0 a1 a2 k
 unfold slices_ContainsFunc_impl_Clue_at_impl_Puzzle_solutions_1_1.f
 repeat' first | (with_reducible exact slices_IndexFunc_impl_Clue_at_impl_Puzzle_solutions_1_1.mono _ _ _ _) | (with_reducible exact LeO.refl _) | (with_reducible exact LeO.none _) | (with_reducible refine LeO.ite ?_ ?_) | (with_reducible refine LeO.bind ?_ (fun _ => ?_)) | exact slices_IndexFunc_impl_Clue_at_impl_Puzzle_solutions_1_1.mono _ _ _ _ | exact LeO.none _ | refine LeO.ite ?_ ?_ | refine LeO.bind ?_ (fun _ => ?_)
set_option maxHeartbeats 8000000 in
set_option maxRecDepth 100000 in
theorem slices_ContainsFunc_impl_Clue_at_impl_Puzzle_solutions_1_1.calls (k : Nat) (A0 : Option Addr) (c0 : Nat) (l0 : List (S_impl_Clue)) (gx1 : Nat) (a1_0 : Int) (a1_1 : Int) (r : Bool) (w : World) (hr0 : Kd.C kd_impl_Clue w A0 l0.length l0) (hc0 : l0.length ≤ c0) (hbx1 : w.heap[gx1]? = some (.cells #[.int .i64 a1_0, .int .i64 a1_1] 41 (0, 0))) (h : slices_ContainsFunc_impl_Clue_at_impl_Puzzle_solutions_1_1.f k l0 a1_0 a1_1 = some r) :
  Calls Try.prog 63 #[.slice A0 l0.length c0, .func (.func 101) #[] #[.pointer (some ⟨gx1, 0, none⟩)]] w fun e w' => e = .returned (.bool r) ∧ Below w.heap.size w w' := by
 have HR0 := aM hr0; have HC0 := aM hc0; clear hr0 hc0; have BK1 := aM hbx1; clear hbx1; have HB := aM (Below.refl w.heap.size w)
 unfold slices_ContainsFunc_impl_Clue_at_impl_Puzzle_solutions_1_1.f at h; have H := h; clear h
 replace H := bS H; obtain ⟨t305, A3, H⟩ := H; obtain rfl := Option.some.inj H
 go_enter Try.func63, Try.ntmps63
 go_wp2_with (first | ((with_reducible refine gC (f := 95) rfl ?_); refine goesL_ (some 7) rfl rfl Try.func95 kR rfl #[.slice A0 l0.length c0, .func (.func 101) #[] #[.pointer (some ⟨gx1, 0, none⟩)]] rfl sQ ?_; (with_reducible refine (slices_IndexFunc_impl_Clue_at_impl_Puzzle_solutions_1_1.calls k _ _ l0 gx1 a1_0 a1_1 t305 _ ?side1 ?side2 ?side3 A3.out).mono ?_); (case side1 => repeat (first | exact HR0.out | (with_reducible refine cA ?_ _) | (with_reducible refine cN ?_ _) | (with_reducible refine cD ?_))); (case side2 => exact HC0.out); (case side3 => exact (gQ BK1)); rintro e w4 ⟨rfl, hb⟩; refine ⟨_, rfl, ?_⟩; replace BK1 := aM (blk_below (g := gx1) (o := .cells #[.int .i64 a1_0, .int .i64 a1_1] 41 (0, 0)) (gQ BK1) hb); replace HB := tB HB hb; (try clear hb); (try clear hb2); (try clear hk); (try clear hi)))
 go_ret
 exact ⟨wQ, bE⟩

def impl_Puzzle_solutions_1.f (k : Nat) (a0_0 : Int) (a0_1 : Int) (l1_0 : List (S_impl_Clue)) : Option (Bool) := (slices_ContainsFunc_impl_Clue_at_impl_Puzzle_solutions_1_1.f k l1_0 a0_0 a0_1).bind fun t307 => (some t307)
theorem impl_Puzzle_solutions_1.mono : ∀ a0 a1 a2 k, LeO (impl_Puzzle_solutions_1.f k a0 a1 a2) (impl_Puzzle_solutions_1.f (k + 1) a0 a1 a2) := by
 intro a0 a1 a2 k
 unfold impl_Puzzle_solutions_1.f
 repeat' first | (with_reducible exact slices_ContainsFunc_impl_Clue_at_impl_Puzzle_solutions_1_1.mono _ _ _ _) | (with_reducible exact LeO.refl _) | (with_reducible exact LeO.none _) | (with_reducible refine LeO.ite ?_ ?_) | (with_reducible refine LeO.bind ?_ (fun _ => ?_)) | exact slices_ContainsFunc_impl_Clue_at_impl_Puzzle_solutions_1_1.mono _ _ _ _ | exact LeO.none _ | refine LeO.ite ?_ ?_ | refine LeO.bind ?_ (fun _ => ?_)
set_option maxHeartbeats 8000000 in
set_option maxRecDepth 100000 in
theorem impl_Puzzle_solutions_1.calls (k : Nat) (a0_0 : Int) (a0_1 : Int) (gx1 : Nat) (A1_0 : Option Addr) (c1_0 : Nat) (l1_0 : List (S_impl_Clue)) (r : Bool) (w : World) (hr1_0 : Kd.C kd_impl_Clue w A1_0 l1_0.length l1_0) (hc1_0 : l1_0.length ≤ c1_0) (hbx1 : w.heap[gx1]? = some (.cells #[.slice A1_0 l1_0.length c1_0] 29 (0, 0))) (h : impl_Puzzle_solutions_1.f k a0_0 a0_1 l1_0 = some r) :
  Calls Try.prog 100 #[.agg #[.int .i64 a0_0, .int .i64 a0_1], .pointer (some ⟨gx1, 0, none⟩)] w fun e w' => e = .returned (.bool r) ∧ Below w.heap.size w w' := by
 have hu41 := Try.underlying41; have hu29 := Try.underlying29; have HR1_0 := aM hr1_0; have HC1_0 := aM hc1_0; clear hr1_0 hc1_0; have BK1 := aM hbx1; clear hbx1; have HB := aM (Below.refl w.heap.size w)
 unfold impl_Puzzle_solutions_1.f at h; have H := h; clear h
 replace H := bS H; obtain ⟨t307, A3, H⟩ := H; obtain rfl := Option.some.inj H
 go_enter Try.func100, Try.ntmps100
 go_wp2_with (first | ((with_reducible refine gate_dst (N := 2) rfl ?_); refine bV 2 (cs := #[.int .i64 a0_0, .int .i64 a0_1]) (t := 41) rfl rfl (by first | (go_simp; done) | (go_simp; rfl)) ?_; intro gb306 hg w4 hbox hb; have BK306 := hbox; have GW306 := gZ HB hg; have GE306 := gZ HB hg; have NB1_306 := aM ((by rw [hg]; exact nN (blk_lt (g := gx1) (o := .cells #[.slice A1_0 l1_0.length c1_0] 29 (0, 0)) (gQ BK1)) : gx1 ≠ gb306)); have NB306_1 := aM ((by rw [hg]; exact Nat.ne_of_gt (blk_lt (g := gx1) (o := .cells #[.slice A1_0 l1_0.length c1_0] 29 (0, 0)) (gQ BK1)) : gb306 ≠ gx1)); replace BK1 := aM (blk_below (g := gx1) (o := .cells #[.slice A1_0 l1_0.length c1_0] 29 (0, 0)) (gQ BK1) hb); replace HB := tB HB hb; clear hb hbox hg; have hnb5 := NB1_306.out; have hnc5 := NB306_1.out; have hcz6_0 : w4.cell? ⟨gx1, 0, none⟩ = some (.slice A1_0 l1_0.length c1_0) := vZ0 BK1; have hfz6_0 := kF BK1.out 0) | ((with_reducible refine gC (f := 63) rfl ?_); refine goesL_ (some 6) rfl rfl Try.func63 kR rfl #[.slice A1_0 l1_0.length c1_0, .func (.func 101) #[] #[.pointer (some ⟨gb306, 0, none⟩)]] rfl sQ ?_; (with_reducible refine (slices_ContainsFunc_impl_Clue_at_impl_Puzzle_solutions_1_1.calls k _ _ l1_0 gb306 a0_0 a0_1 t307 _ ?side1 ?side2 ?side3 A3.out).mono ?_); (case side1 => repeat (first | exact (Kd.C_below HR1_0.out HB.out) | (with_reducible refine cA ?_ _) | (with_reducible refine cN ?_ _) | (with_reducible refine cD ?_))); (case side2 => exact HC1_0.out); (case side3 => exact (gQ BK306)); rintro e w7 ⟨rfl, hb⟩; refine ⟨_, rfl, ?_⟩; replace BK1 := aM (blk_below (g := gx1) (o := .cells #[.slice A1_0 l1_0.length c1_0] 29 (0, 0)) (gQ BK1) hb); replace BK306 := bB BK306 hb; replace HB := tB HB hb; (try clear hb); (try clear hb2); (try clear hk); (try clear hi)))
 go_ret
 exact ⟨wQ, bE⟩

def slices_IndexFunc_impl_Peg_at_impl_Puzzle_solutions_1.l0 : Nat → List (S_impl_Peg) → Int → Int → List (S_impl_Clue) → Option (Int)
 | 0, _, _, _, _ => none
 | k + 1, x0, x7, x8, x2000 => if x8 < x7 then (if 0 ≤ x8 then (if x8 < (x0.length : Int) then ((impl_Puzzle_solutions_1.f k ((rd_impl_Peg x0 x8).f0) ((rd_impl_Peg x0 x8).f1) x2000).bind fun t309 => (if t309 = true then (some x8) else (slices_IndexFunc_impl_Peg_at_impl_Puzzle_solutions_1.l0 k x0 x7 (wrap64 (x8 + 1)) x2000))) else (none)) else (none)) else (some (-1))
def slices_IndexFunc_impl_Peg_at_impl_Puzzle_solutions_1.f (k : Nat) (l0 : List (S_impl_Peg)) (l1_0 : List (S_impl_Clue)) : Option (Int) := slices_IndexFunc_impl_Peg_at_impl_Puzzle_solutions_1.l0 k l0 (l0.length : Int) 0 l1_0
theorem slices_IndexFunc_impl_Peg_at_impl_Puzzle_solutions_1.mono_l : ∀ k, (∀ y0 y1 y2 y3, LeO (slices_IndexFunc_impl_Peg_at_impl_Puzzle_solutions_1.l0 k y0 y1 y2 y3) (slices_IndexFunc_impl_Peg_at_impl_Puzzle_solutions_1.l0 (k + 1) y0 y1 y2 y3))
 | 0 => fun _ _ _ _ r h => by simp [slices_IndexFunc_impl_Peg_at_impl_Puzzle_solutions_1.l0] at h
 | k + 1 => by
  have ih0 := slices_IndexFunc_impl_Peg_at_impl_Puzzle_solutions_1.mono_l k
  ·intro y0 y1 y2 y3
   unfold slices_IndexFunc_impl_Peg_at_impl_Puzzle_solutions_1.l0
   repeat' first
   | (with_reducible exact ih0 _ _ _ _)
   | (with_reducible exact impl_Puzzle_solutions_1.mono _ _ _ _)
   | (with_reducible exact LeO.refl _)
   | (with_reducible exact LeO.none _)
   | (with_reducible refine LeO.ite ?_ ?_)
   | (with_reducible refine LeO.bind ?_ (fun _ => ?_))
   | exact ih0 _ _ _ _
   | exact impl_Puzzle_solutions_1.mono _ _ _ _
   | exact LeO.none _
   | refine LeO.ite ?_ ?_
   | refine LeO.bind ?_ (fun _ => ?_)
theorem slices_IndexFunc_impl_Peg_at_impl_Puzzle_solutions_1.mono : ∀ a0 a1 k, LeO (slices_IndexFunc_impl_Peg_at_impl_Puzzle_solutions_1.f k a0 a1) (slices_IndexFunc_impl_Peg_at_impl_Puzzle_solutions_1.f (k + 1) a0 a1) := by
 intro a0 a1 k
 have ih0 := slices_IndexFunc_impl_Peg_at_impl_Puzzle_solutions_1.mono_l k
 unfold slices_IndexFunc_impl_Peg_at_impl_Puzzle_solutions_1.f
 repeat' first | (with_reducible exact ih0 _ _ _ _) | (with_reducible exact impl_Puzzle_solutions_1.mono _ _ _ _) | (with_reducible exact LeO.refl _) | (with_reducible exact LeO.none _) | (with_reducible refine LeO.ite ?_ ?_) | (with_reducible refine LeO.bind ?_ (fun _ => ?_)) | exact ih0 _ _ _ _ | exact impl_Puzzle_solutions_1.mono _ _ _ _ | exact LeO.none _ | refine LeO.ite ?_ ?_ | refine LeO.bind ?_ (fun _ => ?_)
set_option maxHeartbeats 8000000 in
set_option maxRecDepth 100000 in
theorem slices_IndexFunc_impl_Peg_at_impl_Puzzle_solutions_1.calls (k : Nat) (A0 : Option Addr) (c0 : Nat) (l0 : List (S_impl_Peg)) (gx1 : Nat) (A1_0 : Option Addr) (c1_0 : Nat) (l1_0 : List (S_impl_Clue)) (r : Int) (w : World) (hr0 : Kd.C kd_impl_Peg w A0 l0.length l0) (hc0 : l0.length ≤ c0) (hr1_0 : Kd.C kd_impl_Clue w A1_0 l1_0.length l1_0) (hc1_0 : l1_0.length ≤ c1_0) (hbx1 : w.heap[gx1]? = some (.cells #[.slice A1_0 l1_0.length c1_0] 29 (0, 0))) (h : slices_IndexFunc_impl_Peg_at_impl_Puzzle_solutions_1.f k l0 l1_0 = some r) :
  Calls Try.prog 114 #[.slice A0 l0.length c0, .func (.func 100) #[] #[.pointer (some ⟨gx1, 0, none⟩)]] w fun e w' => e = .returned (.int .i64 r) ∧ Below w.heap.size w w' := by
 have hu41 := Try.underlying41; have HR0 := aM hr0; have HC0 := aM hc0; clear hr0 hc0; have HR1_0 := aM hr1_0; have HC1_0 := aM hc1_0; clear hr1_0 hc1_0; have BK1 := aM hbx1; clear hbx1; have HB := aM (Below.refl w.heap.size w)
 unfold slices_IndexFunc_impl_Peg_at_impl_Puzzle_solutions_1.f at h; have H := h; clear h
 have H' := aM H; clear H
 go_enter Try.func114, Try.ntmps114
 go_wp2
 go_loopg [8] k (fun kq v8 w' => ∃ (x8_1 : Int), v8 = .int .i64 x8_1 ∧ Aside0 (slices_IndexFunc_impl_Peg_at_impl_Puzzle_solutions_1.l0 kq l0 (l0.length : Int) x8_1 l1_0 = some r) ∧ Aside0 (kq ≤ k) ∧ Aside0 (w'.heap[gx1]? = some (.cells #[(.slice A1_0 l1_0.length c1_0)] 29 (0, 0))) ∧ Aside0 (Below w.heap.size w w'))
 case atStart => exact ⟨(0), eQ, H', ⟨Nat.le_refl _⟩, ⟨gQ BK1⟩, ⟨bE⟩⟩
 case round =>
  clear H'; obtain ⟨x8_1, rfl, HA, HK1, BK1, HB⟩ := hrel
  cases gk with
  | zero => exact absurd HA.out (by simp [slices_IndexFunc_impl_Peg_at_impl_Puzzle_solutions_1.l0])
  | succ k1 =>
   have H := HA.out; clear HA
   simp only [slices_IndexFunc_impl_Peg_at_impl_Puzzle_solutions_1.l0] at H
   by_cases c3 : x8_1 < (l0.length : Int)
   ·rw [if_pos c3] at H; have c3b0 := dE c3; clear c3; replace H := iD H; obtain ⟨c4b0, H⟩ := H; replace H := iD H; obtain ⟨c5b0, H⟩ := H; replace H := bS H; obtain ⟨t309, A6, H⟩ := H
    by_cases c7 : t309 = true
    ·subst c7; replace H := iT H; obtain rfl := Option.some.inj H; have p308 : 0 ≤ (x8_1 : Int) := dT aQ; have q308 : x8_1 < (l0.length : Int) := dT aQ; obtain ⟨ad308, e308, hx308_0, hx308_1⟩ := at_impl_Peg HR0.out x8_1 p308 q308
     cases e308
     replace hx308_0 := hC HB hx308_0; replace hx308_1 := hC HB hx308_1; replace p308 := eq_true p308; replace q308 := eq_true q308
     go_wp2_with (first | ((with_reducible refine gate_tmp rfl ?_); refine goesLTC_ (some 16) rfl rfl Try.func100 kR rfl #[.agg #[.int .i64 ((rd_impl_Peg l0 x8_1).f0), .int .i64 ((rd_impl_Peg l0 x8_1).f1)], .pointer (some ⟨gx1, 0, none⟩)] #[] #[.pointer (some ⟨gx1, 0, none⟩)] rfl (by first | rfl | (simp [Act.eval]; done)) (by (try simp only [mA, mC, mN, List.append_toArray, List.nil_append, List.cons_append, List.append_nil]); (try simp only [mA, mC, mN]); first | done | rfl | (simp only [lD, lT]; rfl)) ?_; (with_reducible refine (impl_Puzzle_solutions_1.calls k1 ((rd_impl_Peg l0 x8_1).f0) ((rd_impl_Peg l0 x8_1).f1) gx1 A1_0 c1_0 l1_0 true _ ?side1 ?side2 ?side3 A6.out).mono ?_); (case side1 => repeat (first | exact (Kd.C_below HR1_0.out HB.out) | (with_reducible refine cA ?_ _) | (with_reducible refine cN ?_ _) | (with_reducible refine cD ?_))); (case side2 => exact HC1_0.out); (case side3 => exact (gQ BK1)); rintro e w8 ⟨rfl, hb⟩; refine ⟨_, rfl, ?_⟩; replace BK1 := aM (blk_below (g := gx1) (o := .cells #[.slice A1_0 l1_0.length c1_0] 29 (0, 0)) (gQ BK1) hb); replace HB := tB HB hb; (try clear hb); (try clear hb2); (try clear hk); (try clear hi)))
     go_ret
     exact ⟨wQ, bE⟩
    ·replace c7 := Bool.eq_false_iff.mpr c7; subst c7; replace H := iF H; have H' := aM H; clear H; have p308 : 0 ≤ (x8_1 : Int) := dT aQ; have q308 : x8_1 < (l0.length : Int) := dT aQ; obtain ⟨ad308, e308, hx308_0, hx308_1⟩ := at_impl_Peg HR0.out x8_1 p308 q308
     cases e308
     replace hx308_0 := hC HB hx308_0; replace hx308_1 := hC HB hx308_1; replace p308 := eq_true p308; replace q308 := eq_true q308
     go_wp2_with (first | ((with_reducible refine gate_tmp rfl ?_); refine goesLTC_ (some 16) rfl rfl Try.func100 kR rfl #[.agg #[.int .i64 ((rd_impl_Peg l0 x8_1).f0), .int .i64 ((rd_impl_Peg l0 x8_1).f1)], .pointer (some ⟨gx1, 0, none⟩)] #[] #[.pointer (some ⟨gx1, 0, none⟩)] rfl (by first | rfl | (simp [Act.eval]; done)) (by (try simp only [mA, mC, mN, List.append_toArray, List.nil_append, List.cons_append, List.append_nil]); (try simp only [mA, mC, mN]); first | done | rfl | (simp only [lD, lT]; rfl)) ?_; (with_reducible refine (impl_Puzzle_solutions_1.calls k1 ((rd_impl_Peg l0 x8_1).f0) ((rd_impl_Peg l0 x8_1).f1) gx1 A1_0 c1_0 l1_0 false _ ?side1 ?side2 ?side3 A6.out).mono ?_); (case side1 => repeat (first | exact (Kd.C_below HR1_0.out HB.out) | (with_reducible refine cA ?_ _) | (with_reducible refine cN ?_ _) | (with_reducible refine cD ?_))); (case side2 => exact HC1_0.out); (case side3 => exact (gQ BK1)); rintro e w9 ⟨rfl, hb⟩; refine ⟨_, rfl, ?_⟩; replace BK1 := aM (blk_below (g := gx1) (o := .cells #[.slice A1_0 l1_0.length c1_0] 29 (0, 0)) (gQ BK1) hb); replace HB := tB HB hb; (try clear hb); (try clear hb2); (try clear hk); (try clear hi)))
     go_roundg k1
     case measure => have := HK1.out; omega
     case rel => exact ⟨(wrap64 (x8_1 + 1)), eQ, H', ⟨by have := HK1.out; omega⟩, ⟨gQ BK1⟩, ⟨bE⟩⟩
   ·rw [if_neg c3] at H; have c3b0 := decide_eq_false c3; clear c3; obtain rfl := Option.some.inj H; go_wp2
    go_ret
    exact ⟨wQ, bE⟩

end Go.Proofs.Ytoeclfihlhmnpaa.X
