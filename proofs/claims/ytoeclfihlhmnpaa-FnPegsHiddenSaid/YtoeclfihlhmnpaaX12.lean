-- thin
-- short
-- compact
import Derived.Test.YtoeclfihlhmnpaaXA
import Derived.Test.YtoeclfihlhmnpaaX0
import Derived.Test.YtoeclfihlhmnpaaX7
import Derived.Test.YtoeclfihlhmnpaaX8
import Derived.Test.YtoeclfihlhmnpaaX11
import Derived.Test.YtoeclfihlhmnpaaXW3
namespace Go.Proofs.Ytoeclfihlhmnpaa.X
open Go.RowKit Go.Proofs.Ytoeclfihlhmnpaa.XW Go.Proofs.YtoeclfihlhmnpaaW.PrintWords Go.Proofs.YtoeclfihlhmnpaaW.PrintLast Go.Proofs.YtoeclfihlhmnpaaW.PrintMore
attribute [local go_sem] max2_int min2_int max_two min_two max_three min_three max_four min_four   -- for this text's walks alone
set_option linter.unusedVariables false
set_option linter.unusedSimpArgs false

def spec_pzWithout.f (l0 : List (S_impl_Clue)) (a1 : Int) : Option ((List (S_impl_Clue))) := (some (([] : List (S_impl_Clue)) : List (S_impl_Clue))).bind fun y284 => (if 0 ≤ a1 then (if a1 ≤ (l0.length : Int) then ((some (l0.take (a1 : Int).toNat : List (S_impl_Clue))).bind fun y287 => (if y284.length + y287.length < 4398046511104 then ((some (y284 ++ y287 : List (S_impl_Clue))).bind fun y291 => (if 0 ≤ (wrap64 (a1 + 1)) then (if (wrap64 (a1 + 1)) ≤ (l0.length : Int) then ((some (l0.drop ((wrap64 (a1 + 1)) : Int).toNat : List (S_impl_Clue))).bind fun y294 => (if y291.length + y294.length < 4398046511104 then (some (y291 ++ y294)) else (none))) else (none)) else (none))) else (none))) else (none)) else (none))
def spec_pzWithout.T1 : Bool × List (List Nat × List Nat) := (true, [([], []), ([], []), ([], []), ([1, 2], [1, 2]), ([0, 3], [0, 3]), ([], []), ([], []), ([6], [6]), ([5, 7], [5, 7]), ([4, 8, 4], [4, 8]), ([9, 9, 0, 1, 2, 3, 4, 5, 6, 7, 8, 9], [9])])
def spec_pzWithout.B1 : List Nat := [0, 0, 0, 6, 15, 0, 0, 64, 224, 511, 1023]
theorem spec_pzWithout.tab1 : rtab .any (opsOf Try.f71 1) = spec_pzWithout.T1 := by kernel_rfl
theorem spec_pzWithout.bits1 : waitsOk spec_pzWithout.T1.2 spec_pzWithout.B1 = true := by kernel_rfl
set_option maxHeartbeats 8000000 in
set_option maxRecDepth 100000 in
theorem spec_pzWithout.calls (A0 : Option Addr) (c0 : Nat) (l0 : List (S_impl_Clue)) (a1 : Int) (r : List (S_impl_Clue)) (w : World) (hr0 : Kd.C kd_impl_Clue w A0 l0.length l0) (hc0 : l0.length ≤ c0) (h : spec_pzWithout.f l0 a1 = some r) :
  Calls Try.prog 71 #[.slice A0 l0.length c0, .int .i64 a1] w fun e w' => ∃ v0_ : Value, e = .returned (v0_) ∧ Kd.R kd_impl_Clue 48 w' w.heap.size (fun _ => True) v0_ r ∧ Below w.heap.size w w' := by
 have HR0 := aM hr0; have HC0 := aM hc0; clear hr0 hc0; have HB := aM (Below.refl w.heap.size w)
 unfold spec_pzWithout.f at h; have H := h; clear h
 replace H := lS H; obtain ⟨y284, Ny284, H⟩ := H; replace H := iN H; obtain ⟨c3, H⟩ := H; have c3b0 := eq_true c3; have c3b1 := dE c3; clear c3; replace H := iN H; obtain ⟨c4, H⟩ := H; have c4b0 := eq_true c4; have c4b1 := dE c4; clear c4; replace H := lS H; obtain ⟨y287, Ny287, H⟩ := H; replace H := iN H; obtain ⟨c5, H⟩ := H; have LMc5 := aM c5; clear c5; replace H := lS H; obtain ⟨y291, Ny291, H⟩ := H; obtain ⟨ji6, hji6⟩ : ∃ j_ : Int, (wrap64 (a1 + 1)) = j_ := ⟨_, rfl⟩
 (first | rw [hji6] at H | simp only [hji6] at H)
 have hji6w : (IntKind.i64.wrap (a1 + 1)) = ji6 := (i64_w _).trans hji6; replace H := iN H; obtain ⟨c7, H⟩ := H; have c7b0 := eq_true c7; have c7b1 := dE c7; clear c7; replace H := iN H; obtain ⟨c8, H⟩ := H; have c8b0 := eq_true c8; have c8b1 := dE c8; clear c8; replace H := lS H; obtain ⟨y294, Ny294, H⟩ := H; replace H := iN H; obtain ⟨c9, H⟩ := H; have LMc9 := aM c9; clear c9; obtain ⟨y298, hy298⟩ : ∃ y_ : List (S_impl_Clue), y_ = (y291 ++ y294) := ⟨_, rfl⟩; rw [← hy298] at H; have Ny298 := aM hy298; clear hy298; obtain rfl := Option.some.inj H
 go_enter Try.func71, Try.ntmps71
 try go_wp2
 replace HB := aM (pD HB.out); have q11 : (a1 : Int) ≤ ((l0.length : Int) : Int) := dT aQ; obtain ⟨i011, hi011, _, hsz11, _⟩ := info_parts info48; have hroom11 : l0.length ≤ c0 := HC0.out; have hC11 : Kd.C kd_impl_Clue _ A0 l0.length l0 := HR0.out; have hcut11 := cut_to (P := Try.prog) 29 48 .i64 Try.underlying29 hi011 A0 l0.length c0 a1 (dT aQ) q11 hroom11; have hr11 := Kd.C_take (m := (a1 : Int).toNat) hC11 (by omega)
 have hy11 : y287.length = (a1 : Int).toNat := (by rw [Ny287.out, lT]; omega)
 rw [← Ny287.out] at hr11; rw [← hy11] at hcut11; have HR290 := aM hr11; have HC290 := aM (show y287.length ≤ c0 from by omega)
 clear hr11 hC11 hroom11 hi011 hsz11; have KY11 := aM hy11; clear hy11; replace q11 := eq_true q11; have q12 : ((ji6) : Int) ≤ ((l0.length : Int) : Int) := dT aQ; obtain ⟨i012, hi012, _, hsz12, _⟩ := info_parts info48; have hroom12 : l0.length ≤ c0 := HC0.out; have hC12 : Kd.C kd_impl_Clue _ A0 l0.length l0 := HR0.out; have q012 : (0 : Int) ≤ ((ji6) : Int) := dT aQ; have hcut12 := cut_from (P := Try.prog) 29 48 .i64 Try.underlying29 hi012 4 hsz12 A0 l0.length c0 (ji6) q012 q12; have hr12 := Kd.C_drop (m := ((ji6) : Int).toNat) (c := c0) hC12 (by omega) hroom12
 obtain ⟨A12, hA12⟩ : ∃ A1, A1 = (if c0 = ((ji6) : Int).toNat then A0 else (A0 : Option Addr).map (·.add (((ji6) : Int).toNat * 4))) := ⟨_, rfl⟩; obtain ⟨c12, hc12⟩ : ∃ c1, c1 = c0 - ((ji6) : Int).toNat := ⟨_, rfl⟩; have hy12 : y294.length = l0.length - ((ji6) : Int).toNat := (by rw [Ny294.out, lD] <;> omega)
 rw [show (l0).drop ((ji6) : Int).toNat = y294 from Ny294.out.symm] at hr12; replace hr12 : Kd.C kd_impl_Clue _ A12 y294.length y294 := (by rw [hA12]; exact hr12)
 rw [← hy12, ← hA12, ← hc12] at hcut12; have HR297 := aM hr12; have HC297 := aM (show y294.length ≤ c12 from by rw [hy12, hc12]; exact Nat.sub_le_sub_right hroom12 _)
 clear hr12 hC12 hroom12 hi012 hsz12 hc12; have KY12 := aM hy12; have KA12 := aM hA12; clear hy12 hA12; replace q12 := eq_true q12
 refine start_ (n := 11) (S := fun w' => True) (ds := []) (bA 11 0) kR rfl kR trivial (fun hHeld => ?_); refine with_tabW spec_pzWithout.tab1 spec_pzWithout.bits1 (fun HT_ HW_ => ?_)
 generalize w.drew = w10 at HB HR290 HR297 hHeld ⊢
 refine pU 1 6 (bA 11 2) HT_ ?_; refine pU 2 7 (bA 11 6) HT_ ?_; refine pU 3 8 (bA 11 14) HT_ ?_; refine pU 5 10 (bA 11 46) HT_ ?_; refine pU 6 11 (bA 11 110) HT_ ?_; refine pU 7 12 (bA 11 238) HT_ ?_; refine pU 8 13 (bA 11 494) HT_ ?_
 refine oU 0 5 (bA 11 495) HT_ (fun K hK => ?_)
 refine Kd.R_lit_step kd_impl_Clue _ 48 ?hg (N := 5) ?hd (xs := ([] : List (S_impl_Clue))) (inner := []) (ok := fun _ => True) (okp := fun _ => True) ?hr ?hp (fun _ hk => hk) trivial (Below.refl _ _) (Nat.le_refl _) (by simp) ?_; (case hd => rfl); (case hg => rfl); (case hr => first | (go_simp; done) | (go_simp; rfl)); (case hp => exact (Reps.none _ _))
 intro v285 w13 ho14 hb hg_ hnew_
 clear hg_ hnew_
 (first | rw [← Ny284.out] at ho14 | (simp only [Int.reduceToNat] at ho14; rw [← Ny284.out] at ho14))
 have HO286 := aM (Kd.R_lower ho14 (pZ bQ)); replace HB := tB HB hb; clear hb ho14
 refine hK.out _ _ trivial (fun hHeld => ?_)
 clear hK K
 refine nU ?_
 refine oU 4 9 (bA 11 511) HT_ (fun K hK => ?_)
 refine Kd.R_append_rows_step kd_impl_Clue (w0 := w) w.heap.size (by rfl) (.tmp 5) (.tmp 8) 29 48 (.agg #[(.int .i64 0), (.int .i64 0), (.int .i64 0), (.int .i64 0)]) 32 rfl Try.underlying29 info48 rfl (by decide) (by omega) v285 y284 y287 _ _ _ (fun _ => True) (fun _ => False) rfl rfl ?aO ?aR (fun _ _ h => h) (fun _ h => h.elim) ?aF ?aB ?aS ?aL ?_
 (case aR => repeat (first | exact (Kd.C_below HR290.out HB.out) | (with_reducible refine cA ?_ _) | (with_reducible refine cN ?_ _) | (with_reducible refine cD ?_)))
 (case aB => exact bQ)
 (case aF => exact (fun _ _ => trivial))
 (case aO => exact (by (with_reducible repeat (first | apply rA | apply rN | apply rD)); exact HO286.out))
 (case aS => exact (pZ bQ))
 (case aL => have := LMc5.out; omega)
 intro v292 w15 ho hb hg hat
 rw [← Ny291.out] at ho; have n0_ := aM (hb); have n1_ := aM (ho); clear HB; clear HO286; have HB := n0_; have HO293 := n1_; clear n0_ n1_; clear ho hb hg hat
 refine hK.out _ _ trivial (fun hHeld => ?_)
 clear hK K
 refine nU ?_
 refine oU 9 14 (bA 11 1023) HT_ (fun K hK => ?_)
 refine Kd.R_append_rows_step kd_impl_Clue (w0 := w) w.heap.size (by rfl) (.tmp 9) (.tmp 13) 29 48 (.agg #[(.int .i64 0), (.int .i64 0), (.int .i64 0), (.int .i64 0)]) 32 rfl Try.underlying29 info48 rfl (by decide) (by omega) v292 y291 y294 _ _ _ (fun _ => True) (fun _ => False) rfl rfl ?aO ?aR (fun _ _ h => h) (fun _ h => h.elim) ?aF ?aB ?aS ?aL ?_
 (case aR => repeat (first | exact (Kd.C_below HR297.out HB.out) | (with_reducible refine cA ?_ _) | (with_reducible refine cN ?_ _) | (with_reducible refine cD ?_)))
 (case aB => exact bQ)
 (case aF => exact (fun _ _ => trivial))
 (case aO => exact (by (with_reducible repeat (first | apply rA | apply rN | apply rD)); exact HO293.out))
 (case aS => exact (pZ bQ))
 (case aL => have := LMc9.out; omega)
 intro v299 w16 ho hb hg hat
 rw [← Ny298.out] at ho; have n0_ := aM (hb); have n1_ := aM (ho); clear HB; clear HO293; have HB := n0_; have HO300 := n1_; clear n0_ n1_; clear ho hb hg hat
 refine hK.out _ _ trivial (fun hHeld => ?_)
 clear hK K
 refine nU ?_
 refine pU 10 4 (bA 11 2047) HT_ ?_
 refine done_ (done_of HT_.out kR) ?_
 try go_wp2
 go_ret
 exact ⟨_, by first | rfl | (simp [errW_none, errW_some] <;> rfl) | (simp only [← hji6]; first | rfl | (simp [errW_none, errW_some] <;> rfl)) | (simp [*, errW_none, errW_some] <;> rfl), by (with_reducible repeat (first | apply rA | apply rN | apply rD)); exact HO300.out, bQ⟩
mutual
def spec_HarderPuzzle.j0 : Nat → Bool → Int → List (S_impl_Clue) → Option (Int × (List (S_impl_Clue)) × Bool)
 | 0, _, _, _ => none
 | k + 1, x17, x302000, x302001 => if x17 = true then (some (0, ([] : List (S_impl_Clue)), false)) else ((some (([] : List (S_impl_Clue)) : List (S_impl_Clue))).bind fun y305 => (if y305.length + x302001.length < 4398046511104 then (spec_HarderPuzzle.l0 k (y305 ++ x302001) 0 x302000 x302001) else (none)))
def spec_HarderPuzzle.l0 : Nat → List (S_impl_Clue) → Int → Int → List (S_impl_Clue) → Option (Int × (List (S_impl_Clue)) × Bool)
 | 0, _, _, _, _ => none
 | k + 1, x4, x5, x302000, x302001 => if x5 < (x4.length : Int) then ((spec_pzWithout.f x4 x5).bind fun t311 => ((spec_pzSolved.f k x302000 t311).bind fun t314 => (if t314 = true then (spec_HarderPuzzle.l0 k t311 x5 x302000 x302001) else (spec_HarderPuzzle.l0 k x4 (wrap64 (x5 + 1)) x302000 x302001)))) else (some (x302000, x4, true))
end
def spec_HarderPuzzle.f (k : Nat) (a0_0 : Int) (l0_1 : List (S_impl_Clue)) : Option (Int × (List (S_impl_Clue)) × Bool) := (spec_pzGood.f k a0_0 l0_1).bind fun t303 => (if t303 = true then ((spec_pzSolved.f k a0_0 l0_1).bind fun t304 => (spec_HarderPuzzle.j0 k (!t304) a0_0 l0_1)) else (spec_HarderPuzzle.j0 k true a0_0 l0_1))
theorem spec_HarderPuzzle.mono_l : ∀ k, (∀ y0 y1 y2, LeO (spec_HarderPuzzle.j0 k y0 y1 y2) (spec_HarderPuzzle.j0 (k + 1) y0 y1 y2)) ∧ (∀ y0 y1 y2 y3, LeO (spec_HarderPuzzle.l0 k y0 y1 y2 y3) (spec_HarderPuzzle.l0 (k + 1) y0 y1 y2 y3))
 | 0 => ⟨fun _ _ _ r h => by simp [spec_HarderPuzzle.j0] at h, fun _ _ _ _ r h => by simp [spec_HarderPuzzle.l0] at h⟩
 | k + 1 => by
  obtain ⟨ih0, ih1⟩ := spec_HarderPuzzle.mono_l k
  refine ⟨?_, ?_⟩ <;> intros <;> (first | unfold spec_HarderPuzzle.j0 | unfold spec_HarderPuzzle.l0) <;> repeat' first | (with_reducible exact ih0 _ _ _) | (with_reducible exact ih1 _ _ _ _) | (with_reducible exact spec_pzGood.mono _ _ _) | (with_reducible exact spec_pzSolved.mono _ _ _) | (with_reducible exact LeO.refl _) | (with_reducible exact LeO.none _) | (with_reducible refine LeO.ite ?_ ?_) | (with_reducible refine LeO.bind ?_ (fun _ => ?_)) | exact ih0 _ _ _ | exact ih1 _ _ _ _ | exact spec_pzGood.mono _ _ _ | exact spec_pzSolved.mono _ _ _ | exact LeO.none _ | refine LeO.ite ?_ ?_ | refine LeO.bind ?_ (fun _ => ?_)
theorem spec_HarderPuzzle.mono : ∀ a0 a1 k, LeO (spec_HarderPuzzle.f k a0 a1) (spec_HarderPuzzle.f (k + 1) a0 a1) := by
 intro a0 a1 k
 obtain ⟨ih0, ih1⟩ := spec_HarderPuzzle.mono_l k
 unfold spec_HarderPuzzle.f
 repeat' first | (with_reducible exact ih0 _ _ _) | (with_reducible exact ih1 _ _ _ _) | (with_reducible exact spec_pzGood.mono _ _ _) | (with_reducible exact spec_pzSolved.mono _ _ _) | (with_reducible exact LeO.refl _) | (with_reducible exact LeO.none _) | (with_reducible refine LeO.ite ?_ ?_) | (with_reducible refine LeO.bind ?_ (fun _ => ?_)) | exact ih0 _ _ _ | exact ih1 _ _ _ _ | exact spec_pzGood.mono _ _ _ | exact spec_pzSolved.mono _ _ _ | exact LeO.none _ | refine LeO.ite ?_ ?_ | refine LeO.bind ?_ (fun _ => ?_)
set_option maxHeartbeats 8000000 in
set_option maxRecDepth 100000 in
theorem spec_HarderPuzzle.calls (k : Nat) (a0_0 : Int) (A0_1 : Option Addr) (c0_1 : Nat) (l0_1 : List (S_impl_Clue)) (r1 : Int) (r2 : List (S_impl_Clue)) (r3 : Bool) (w : World) (hr0_1 : Kd.C kd_impl_Clue w A0_1 l0_1.length l0_1) (hc0_1 : l0_1.length ≤ c0_1) (h : spec_HarderPuzzle.f k a0_0 l0_1 = some (r1, r2, r3)) :
  Calls Try.prog 23 #[.agg #[.int .i64 a0_0, .slice A0_1 l0_1.length c0_1]] w fun e w' => ∃ v1_ : Value, e = .returned (.tuple #[.agg #[.int .i64 r1, v1_], .bool r3]) ∧ Kd.R kd_impl_Clue 48 w' w.heap.size (fun _ => True) v1_ r2 ∧ Below w.heap.size w w' := by
 have hu31 := Try.underlying31; have HR0_1 := aM hr0_1; have HC0_1 := aM hc0_1; clear hr0_1 hc0_1; have HB := aM (Below.refl w.heap.size w)
 unfold spec_HarderPuzzle.f at h; have H := h; clear h
 have HC2 := aM H; clear H
 go_enter Try.func23, Try.ntmps23
 go_upto_region 1 with (first | ((with_reducible refine gate_dst (N := 1) rfl ?_); refine bV 1 (cs := #[.int .i64 a0_0, .slice A0_1 l0_1.length c0_1]) (t := 31) rfl rfl (by first | (go_simp; done) | (go_simp; rfl)) ?_; intro gb301 hg w3 hbox hb; have BK301 := hbox; have GW301 := gZ HB hg; have GE301 := gZ HB hg; replace HB := tB HB hb; clear hb hbox hg) | ((with_reducible refine gate_dst (N := 2) rfl ?_); refine bV 2 (cs := #[.int .i64 0, .slice none 0 0]) (t := 31) rfl rfl (by first | (go_simp; done) | (go_simp; rfl)) ?_; intro gb302 hg w4 hbox hb; have BK302 := hbox; have GW302 := gZ HB hg; have GE302 := gZ HB hg; have NB301_302 := nG BK301 hg; have NB302_301 := nH BK301 hg; replace BK301 := bB BK301 hb; replace HB := tB HB hb; clear hb hbox hg))
 (try simp only [Act.put, sI, sZ, sS])
 go_cut [17] (fun v17 wc => ∃ (kq : Nat) (x17_1 : Bool), v17 = .bool x17_1 ∧ Aside0 (spec_HarderPuzzle.j0 kq x17_1 a0_0 l0_1 = some (r1, r2, r3)) ∧ Aside0 (kq ≤ k) ∧ Aside0 (wc.heap[gb301]? = some (.cells #[.int .i64 a0_0, (.slice A0_1 l0_1.length c0_1)] 31 (0, 0))) ∧ Aside0 (wc.heap[gb302]? = some (.cells #[.int .i64 0, (.slice none 0 0)] 31 (0, 0))) ∧ Aside0 (Below w.heap.size w wc))
 case first =>
  have H := HC2.out; clear HC2; replace H := bS H; obtain ⟨t303, A5, H⟩ := H
  by_cases c6 : t303 = true
  ·subst c6; replace H := iT H; replace H := bS H; obtain ⟨t304, A7, H⟩ := H; have H' := aM H; clear H; have hnb8 := NB301_302.out; have hnc8 := NB302_301.out; have hcz9_0 := vZ0 BK301; have hcz9_1 := vZ1 BK301; have hfz9_0 := kF BK301.out 0; have hfz9_1 := kF BK301.out 1
   go_wp2_with (first | ((with_reducible refine gC (f := 41) rfl ?_); refine goesL_ (some 8) rfl rfl Try.func41 kR rfl #[.agg #[.int .i64 a0_0, .slice A0_1 l0_1.length c0_1]] rfl sQ ?_; (with_reducible refine (spec_pzGood.calls k a0_0 _ _ l0_1 true _ ?side1 ?side2 A5.out).mono ?_); (case side1 => repeat (first | exact (Kd.C_below HR0_1.out HB.out) | (with_reducible refine cA ?_ _) | (with_reducible refine cN ?_ _) | (with_reducible refine cD ?_))); (case side2 => exact HC0_1.out); rintro e w10 ⟨rfl, hb⟩; refine ⟨_, rfl, ?_⟩; replace BK301 := bB BK301 hb; replace BK302 := bB BK302 hb; replace HB := tB HB hb; (try clear hb); (try clear hb2); (try clear hk); (try clear hi); have hcz11_0 := vZ0 BK301; have hcz11_1 := vZ1 BK301; have hfz11_0 := kF BK301.out 0; have hfz11_1 := kF BK301.out 1) | (go_at_call 70; (with_reducible refine (spec_pzSolved.calls k a0_0 _ _ l0_1 t304 _ ?side1 ?side2 A7.out).mono ?_); (case side1 => repeat (first | exact (Kd.C_below HR0_1.out HB.out) | (with_reducible refine cA ?_ _) | (with_reducible refine cN ?_ _) | (with_reducible refine cD ?_))); (case side2 => exact HC0_1.out); rintro e w12 ⟨rfl, hb⟩; replace BK301 := bB BK301 hb; replace BK302 := bB BK302 hb; replace HB := tB HB hb; (try clear hb); (try clear hb2); (try clear hk); (try clear hi)))
   go_meet
   case rel => exact ⟨_, (!t304), eQ, H', ⟨by first | omega | exact Nat.le_refl _⟩, ⟨gQ BK301⟩, ⟨gQ BK302⟩, ⟨bE⟩⟩
  ·replace c6 := Bool.eq_false_iff.mpr c6; subst c6; replace H := iF H; have H' := aM H; clear H; have hnb13 := NB301_302.out; have hnc13 := NB302_301.out; have hcz14_0 := vZ0 BK301; have hcz14_1 := vZ1 BK301; have hfz14_0 := kF BK301.out 0; have hfz14_1 := kF BK301.out 1
   go_wp2_with (first | ((with_reducible refine gC (f := 41) rfl ?_); refine goesL_ (some 8) rfl rfl Try.func41 kR rfl #[.agg #[.int .i64 a0_0, .slice A0_1 l0_1.length c0_1]] rfl sQ ?_; (with_reducible refine (spec_pzGood.calls k a0_0 _ _ l0_1 false _ ?side1 ?side2 A5.out).mono ?_); (case side1 => repeat (first | exact (Kd.C_below HR0_1.out HB.out) | (with_reducible refine cA ?_ _) | (with_reducible refine cN ?_ _) | (with_reducible refine cD ?_))); (case side2 => exact HC0_1.out); rintro e w15 ⟨rfl, hb⟩; refine ⟨_, rfl, ?_⟩; replace BK301 := bB BK301 hb; replace BK302 := bB BK302 hb; replace HB := tB HB hb; (try clear hb); (try clear hb2); (try clear hk); (try clear hi)))
   go_meet
   case rel => exact ⟨_, (true), eQ, H', ⟨by first | omega | exact Nat.le_refl _⟩, ⟨gQ BK301⟩, ⟨gQ BK302⟩, ⟨bE⟩⟩
 case rest =>
  clear HC2; obtain ⟨kq, x17_1, rfl, HA, HJ1, BK301, BK302, HB⟩ := hcut
  cases kq with
  | zero => exact absurd HA.out (by simp [spec_HarderPuzzle.j0])
  | succ kj1 =>
   have H := HA.out; clear HA
   simp only [spec_HarderPuzzle.j0] at H
   by_cases c16 : x17_1 = true
   ·subst c16; replace H := iT H
    simp only [Option.some.injEq, Prod.mk.injEq] at H
    obtain ⟨rfl, rfl, rfl⟩ := H; have hnb17 := NB302_301.out; have hnc17 := NB301_302.out; have hcz18_0 : wc.cell? ⟨gb302, 0, none⟩ = some (.int .i64 0) := vZ0 BK302; have hcz18_1 : wc.cell? ⟨gb302, 1, none⟩ = some (.slice none 0 0) := vZ1 BK302; have hfz18_0 := kF BK302.out 0; have hfz18_1 := kF BK302.out 1; go_wp2
    refine bodyPost_ret (results_ct rfl _ _ gb302 31 #[.int .i64 0, .slice none 0 0] (0, 0) _ rfl (fQ BK302) Try.underlying31 rfl kR) rfl ?_
    exact ⟨_, by first | rfl | (simp [errW_none, errW_some] <;> rfl) | (simp [*, errW_none, errW_some] <;> rfl), by first | exact Kd.R_nil _ _ _ _ _ | exact Kd.N_nil _ _ _ _ _ | exact Kd.V_nil _ _ _ _ _ | exact Kd.Q_nil _ _ _ _ _ | exact Kd.S_nil _ _ _ _ _, bE⟩
   ·replace c16 := Bool.eq_false_iff.mpr c16; subst c16; replace H := iF H; replace H := lS H; obtain ⟨y305, Ny305, H⟩ := H; replace H := iN H; obtain ⟨c19, H⟩ := H; have LMc19 := aM c19; clear c19; obtain ⟨y308, hy308⟩ : ∃ y_ : List (S_impl_Clue), y_ = (y305 ++ l0_1) := ⟨_, rfl⟩; rw [← hy308] at H; have Ny308 := aM hy308; clear hy308; have H' := aM H; clear H
    go_wp2_with (first | ((with_reducible refine gate_dst (N := 19) rfl ?_); refine Kd.R_lit kd_impl_Clue _ 48 ?hg (N := 19) ?hd (xs := ([] : List (S_impl_Clue))) (inner := []) (ok := fun _ => True) (okp := fun _ => True) ?hr ?hp (fun _ hk => hk) trivial (Below.refl _ _) (Nat.le_refl _) (by simp) ?_; (case hd => rfl); (case hg => rfl); (case hr => first | (go_simp; done) | (go_simp; rfl)); (case hp => exact (Reps.none _ _)); intro v306 w20 ho21 hb hg_ hnew_; clear hg_ hnew_; (first | rw [← Ny305.out] at ho21 | (simp only [Int.reduceToNat] at ho21; rw [← Ny305.out] at ho21)); have HO307 := aM (Kd.R_lower ho21 (pZ bE)); replace BK301 := bB BK301 hb; replace BK302 := bB BK302 hb; replace HB := tB HB hb; clear hb ho21; have hnb22 := NB301_302.out; have hnc22 := NB302_301.out; have hcz23_0 := vZ0 BK301; have hcz23_1 := vZ1 BK301; have hfz23_0 := kF BK301.out 0; have hfz23_1 := kF BK301.out 1) | ((with_reducible refine gate_builtin (b := .append) (xs := #[.tmp 19, .tmp 21]) rfl ?_); at_builtin; refine Kd.R_append_rows kd_impl_Clue (w0 := w) w.heap.size rfl (.tmp 19) (.tmp 21) 29 48 (.agg #[(.int .i64 0), (.int .i64 0), (.int .i64 0), (.int .i64 0)]) 32 rfl Try.underlying29 info48 rfl (by decide) (by omega) v306 y305 l0_1 _ _ _ (fun _ => True) (fun _ => False) rfl rfl ?aO ?aR (fun _ _ h => h) (fun _ h => h.elim) ?aF ?aB ?aS ?aL ?_; (case aR => repeat (first | exact (Kd.C_below HR0_1.out HB.out) | (with_reducible refine cA ?_ _) | (with_reducible refine cN ?_ _) | (with_reducible refine cD ?_))); (case aB => exact bE); (case aF => exact (fun _ _ => trivial)); (case aO => exact (by (with_reducible repeat (first | apply rA | apply rN | apply rD)); exact HO307.out)); (case aS => exact (pZ bE)); (case aL => have := LMc19.out; omega); intro v309 w24 ho hb hg hat; rw [← Ny308.out] at ho; have n0_ := aM (blk_grown (g := gb301) (o := .cells #[.int .i64 a0_0, .slice A0_1 l0_1.length c0_1] 31 (0, 0)) (gQ BK301) hg (Kd.R_ne HO307.out BK301.out (by decide))); have n1_ := aM (blk_grown (g := gb302) (o := .cells #[.int .i64 0, .slice none 0 0] 31 (0, 0)) (gQ BK302) hg (Kd.R_ne HO307.out BK302.out (by decide))); have n2_ := aM (hb); have n3_ := aM (ho); clear BK301; clear BK302; clear HB; clear HO307; have BK301 := n0_; have BK302 := n1_; have HB := n2_; have HO310 := n3_; clear n0_ n1_ n2_ n3_; clear ho hb hg hat))
    go_loopg [4, 5] kj1 (fun kq v4 v5 w' => ∃ (x4_2 : List (S_impl_Clue)) (x5_2 : Int), v5 = .int .i64 x5_2 ∧ Aside0 (spec_HarderPuzzle.l0 kq x4_2 x5_2 a0_0 l0_1 = some (r1, r2, r3)) ∧ Aside0 (kq ≤ kj1) ∧ Aside0 (Kd.R kd_impl_Clue 48 w' w.heap.size (fun _ => True) v4 x4_2) ∧ Aside0 (w'.heap[gb301]? = some (.cells #[.int .i64 a0_0, (.slice A0_1 l0_1.length c0_1)] 31 (0, 0))) ∧ Aside0 (w'.heap[gb302]? = some (.cells #[.int .i64 0, (.slice none 0 0)] 31 (0, 0))) ∧ Aside0 (Below w.heap.size w w'))
    case atStart => exact ⟨(y308), (0), eQ, H', ⟨Nat.le_refl _⟩, ⟨by (with_reducible repeat (first | apply rA | apply rN | apply rD)); exact HO310.out⟩, ⟨gQ BK301⟩, ⟨gQ BK302⟩, ⟨bE⟩⟩
    case round =>
     clear H'; (try clear c16); (try clear c19); (try clear hcz18_0); (try clear hcz18_1); (try clear hcz23_0); (try clear hcz23_1); (try clear hfz18_0); (try clear hfz18_1); (try clear hfz23_0); (try clear hfz23_1); obtain ⟨x4_2, x5_2, rfl, HA, HK2, HO_4, BK301, BK302, HB⟩ := hrel
     cases gk with
     | zero => exact absurd HA.out (by simp [spec_HarderPuzzle.l0])
     | succ k2 =>
      have H := HA.out; clear HA
      simp only [spec_HarderPuzzle.l0] at H
      by_cases c25 : x5_2 < (x4_2.length : Int)
      ·rw [if_pos c25] at H; have c25b0 := dE c25; clear c25; replace H := bS H; obtain ⟨t311, A26, H⟩ := H; replace H := bS H; obtain ⟨t314, A27, H⟩ := H
       by_cases c28 : t314 = true
       ·subst c28; replace H := iT H; have H' := aM H; clear H; obtain ⟨Ao29, co29, eo29⟩ := Kd.R_slice HO_4.out; subst eo29
        go_wp2_with (first | ((with_reducible refine gC (f := 71) rfl ?_); refine goesL_ (some 29) rfl rfl Try.func71 kR rfl #[.slice Ao29 x4_2.length co29, .int .i64 x5_2] rfl sQ ?_; (with_reducible refine (spec_pzWithout.calls _ _ x4_2 x5_2 t311 _ ?side1 ?side2 A26.out).mono ?_); (case side1 => repeat (first | exact (rR HO_4.out).2.2 | (with_reducible refine cA ?_ _) | (with_reducible refine cN ?_ _) | (with_reducible refine cD ?_))); (case side2 => exact (rR HO_4.out).2.1); rintro e w30 ⟨v312, rfl, ho0, hb⟩; refine ⟨_, rfl, ?_⟩; have HO313 := aM (Kd.R_lower (Kd.R_new' ho0 (Kd.R_lt (by (with_reducible repeat (first | apply rA | apply rN | apply rD)); exact HO_4.out))) (pZ bE)); replace HO_4 := aM (Kd.R_elder' (by (with_reducible repeat (first | apply rA | apply rN | apply rD)); exact HO_4.out) (Kd.R_base ho0) hb); replace BK301 := bB BK301 hb; replace BK302 := bB BK302 hb; replace HB := tB HB hb; (try clear hb); (try clear hb2); (try clear hk); (try clear hi); (try clear ho0); have hnb31 := NB301_302.out; have hnc31 := NB302_301.out; have hcz32_0 := vZ0 BK301; have hcz32_1 := vZ1 BK301; have hfz32_0 := kF BK301.out 0; have hfz32_1 := kF BK301.out 1; obtain ⟨Ao33, co33, eo33⟩ := Kd.R_slice HO313.out; subst eo33) | ((with_reducible refine gC (f := 70) rfl ?_); refine goesL_ (some 33) rfl rfl Try.func70 kR rfl #[.int .i64 a0_0, .slice Ao33 t311.length co33] rfl sQ ?_; (with_reducible refine (spec_pzSolved.calls k2 a0_0 _ _ t311 true _ ?side1 ?side2 A27.out).mono ?_); (case side1 => repeat (first | exact (rR HO313.out).2.2 | (with_reducible refine cA ?_ _) | (with_reducible refine cN ?_ _) | (with_reducible refine cD ?_))); (case side2 => exact (rR HO313.out).2.1); rintro e w34 ⟨rfl, hb⟩; refine ⟨_, rfl, ?_⟩; replace HO_4 := aM (Kd.R_below (by (with_reducible repeat (first | apply rA | apply rN | apply rD)); exact HO_4.out) hb); replace HO313 := aM (Kd.R_below (by (with_reducible repeat (first | apply rA | apply rN | apply rD)); exact HO313.out) hb); replace BK301 := bB BK301 hb; replace BK302 := bB BK302 hb; replace HB := tB HB hb; (try clear hb); (try clear hb2); (try clear hk); (try clear hi)))
        go_roundg k2
        case measure => have := HJ1.out; have := HK2.out; omega
        case rel => exact ⟨(t311), (x5_2), eQ, H', ⟨by have := HJ1.out; have := HK2.out; omega⟩, ⟨by (with_reducible repeat (first | apply rA | apply rN | apply rD)); exact Kd.R_mono HO313.out (fun _ hk => trivial)⟩, ⟨gQ BK301⟩, ⟨gQ BK302⟩, ⟨bE⟩⟩
       ·replace c28 := Bool.eq_false_iff.mpr c28; subst c28; replace H := iF H; have H' := aM H; clear H; obtain ⟨Ao35, co35, eo35⟩ := Kd.R_slice HO_4.out; subst eo35
        go_wp2_with (first | ((with_reducible refine gC (f := 71) rfl ?_); refine goesL_ (some 29) rfl rfl Try.func71 kR rfl #[.slice Ao35 x4_2.length co35, .int .i64 x5_2] rfl sQ ?_; (with_reducible refine (spec_pzWithout.calls _ _ x4_2 x5_2 t311 _ ?side1 ?side2 A26.out).mono ?_); (case side1 => repeat (first | exact (rR HO_4.out).2.2 | (with_reducible refine cA ?_ _) | (with_reducible refine cN ?_ _) | (with_reducible refine cD ?_))); (case side2 => exact (rR HO_4.out).2.1); rintro e w36 ⟨v312, rfl, ho0, hb⟩; refine ⟨_, rfl, ?_⟩; have HO313 := aM (Kd.R_lower (Kd.R_new' ho0 (Kd.R_lt (by (with_reducible repeat (first | apply rA | apply rN | apply rD)); exact HO_4.out))) (pZ bE)); replace HO_4 := aM (Kd.R_elder' (by (with_reducible repeat (first | apply rA | apply rN | apply rD)); exact HO_4.out) (Kd.R_base ho0) hb); replace BK301 := bB BK301 hb; replace BK302 := bB BK302 hb; replace HB := tB HB hb; (try clear hb); (try clear hb2); (try clear hk); (try clear hi); (try clear ho0); have hnb37 := NB301_302.out; have hnc37 := NB302_301.out; have hcz38_0 := vZ0 BK301; have hcz38_1 := vZ1 BK301; have hfz38_0 := kF BK301.out 0; have hfz38_1 := kF BK301.out 1; obtain ⟨Ao39, co39, eo39⟩ := Kd.R_slice HO313.out; subst eo39) | ((with_reducible refine gC (f := 70) rfl ?_); refine goesL_ (some 33) rfl rfl Try.func70 kR rfl #[.int .i64 a0_0, .slice Ao39 t311.length co39] rfl sQ ?_; (with_reducible refine (spec_pzSolved.calls k2 a0_0 _ _ t311 false _ ?side1 ?side2 A27.out).mono ?_); (case side1 => repeat (first | exact (rR HO313.out).2.2 | (with_reducible refine cA ?_ _) | (with_reducible refine cN ?_ _) | (with_reducible refine cD ?_))); (case side2 => exact (rR HO313.out).2.1); rintro e w40 ⟨rfl, hb⟩; refine ⟨_, rfl, ?_⟩; replace HO_4 := aM (Kd.R_below (by (with_reducible repeat (first | apply rA | apply rN | apply rD)); exact HO_4.out) hb); replace HO313 := aM (Kd.R_below (by (with_reducible repeat (first | apply rA | apply rN | apply rD)); exact HO313.out) hb); replace BK301 := bB BK301 hb; replace BK302 := bB BK302 hb; replace HB := tB HB hb; (try clear hb); (try clear hb2); (try clear hk); (try clear hi)))
        go_roundg k2
        case measure => have := HJ1.out; have := HK2.out; omega
        case rel => exact ⟨(x4_2), (wrap64 (x5_2 + 1)), eQ, H', ⟨by have := HJ1.out; have := HK2.out; omega⟩, ⟨by (with_reducible repeat (first | apply rA | apply rN | apply rD)); exact Kd.R_mono HO_4.out (fun _ hk => trivial)⟩, ⟨gQ BK301⟩, ⟨gQ BK302⟩, ⟨bE⟩⟩
      ·rw [if_neg c25] at H; have c25b0 := decide_eq_false c25; clear c25
       simp only [Option.some.injEq, Prod.mk.injEq] at H
       obtain ⟨rfl, rfl, rfl⟩ := H; obtain ⟨Ao41, co41, eo41⟩ := Kd.R_slice HO_4.out; subst eo41; have hnb42 := NB301_302.out; have hnc42 := NB302_301.out; have hcz43_0 : wr.cell? ⟨gb301, 0, none⟩ = some (.int .i64 a0_0) := vZ0 BK301; have hcz43_1 : wr.cell? ⟨gb301, 1, none⟩ = some (.slice A0_1 l0_1.length c0_1) := vZ1 BK301; have hfz43_0 := kF BK301.out 0; have hfz43_1 := kF BK301.out 1; have hcz44_0 : wr.cell? ⟨gb302, 0, none⟩ = some (.int .i64 0) := vZ0 BK302; have hcz44_1 : wr.cell? ⟨gb302, 1, none⟩ = some (.slice none 0 0) := vZ1 BK302; have hfz44_0 := kF BK302.out 0; have hfz44_1 := kF BK302.out 1; go_wp2
       refine bodyPost_ret (results_ct rfl _ _ gb302 31 #[.int .i64 a0_0, .slice Ao41 x4_2.length co41] (0, 0) _ rfl (fQ BK302) Try.underlying31 rfl kR) rfl ?_
       exact ⟨_, by first | rfl | (simp [errW_none, errW_some] <;> rfl) | (simp [*, errW_none, errW_some] <;> rfl), by (with_reducible repeat (first | apply rA | apply rN | apply rD)); exact Kd.R_mono (Kd.R_far (p := ⟨gb302, 1, none⟩) (Kd.R_far (p := ⟨gb302, 0, none⟩) (Kd.R_types HO_4.out BK302.out (by decide)) (fun _ hk => hk.2) (.int .i64 a0_0)) (fun _ hk => hk.2) (.slice Ao41 x4_2.length co41)) (fun _ hk => trivial), bE⟩
def impl_IsSolved.f (k : Nat) (a0_0 : Int) (l0_1 : List (S_impl_Clue)) : Option (Bool × Bool) := (impl_IsPuzzle.f k a0_0 l0_1).bind fun t316 => (if t316 = true then ((impl_Puzzle_isSolved.f k a0_0 l0_1 l0_1).bind fun t317 => (some (t317, true))) else (some (false, false)))
theorem impl_IsSolved.mono : ∀ a0 a1 k, LeO (impl_IsSolved.f k a0 a1) (impl_IsSolved.f (k + 1) a0 a1) := by
 intro a0 a1 k
 unfold impl_IsSolved.f
 repeat' first | (with_reducible exact impl_IsPuzzle.mono _ _ _) | (with_reducible exact impl_Puzzle_isSolved.mono _ _ _ _) | (with_reducible exact LeO.refl _) | (with_reducible exact LeO.none _) | (with_reducible refine LeO.ite ?_ ?_) | (with_reducible refine LeO.bind ?_ (fun _ => ?_)) | exact impl_IsPuzzle.mono _ _ _ | exact impl_Puzzle_isSolved.mono _ _ _ _ | exact LeO.none _ | refine LeO.ite ?_ ?_ | refine LeO.bind ?_ (fun _ => ?_)
set_option maxHeartbeats 8000000 in
set_option maxRecDepth 100000 in
theorem impl_IsSolved.calls (k : Nat) (a0_0 : Int) (A0_1 : Option Addr) (c0_1 : Nat) (l0_1 : List (S_impl_Clue)) (r1 : Bool) (r2 : Bool) (w : World) (hr0_1 : Kd.C kd_impl_Clue w A0_1 l0_1.length l0_1) (hc0_1 : l0_1.length ≤ c0_1) (h : impl_IsSolved.f k a0_0 l0_1 = some (r1, r2)) :
  Calls Try.prog 24 #[.agg #[.int .i64 a0_0, .slice A0_1 l0_1.length c0_1]] w fun e w' => e = .returned (.tuple #[.bool r1, .bool r2]) ∧ Below w.heap.size w w' := by
 have hu31 := Try.underlying31; have HR0_1 := aM hr0_1; have HC0_1 := aM hc0_1; clear hr0_1 hc0_1; have HB := aM (Below.refl w.heap.size w)
 unfold impl_IsSolved.f at h; have H := h; clear h
 replace H := bS H; obtain ⟨t316, A2, H⟩ := H
 by_cases c3 : t316 = true
 ·subst c3; replace H := iT H; replace H := bS H; obtain ⟨t317, A4, H⟩ := H
  simp only [Option.some.injEq, Prod.mk.injEq] at H
  obtain ⟨rfl, rfl⟩ := H
  go_enter Try.func24, Try.ntmps24
  go_wp2_with (first | ((with_reducible refine gate_dst (N := 1) rfl ?_); refine bV 1 (cs := #[.int .i64 a0_0, .slice A0_1 l0_1.length c0_1]) (t := 31) rfl rfl (by first | (go_simp; done) | (go_simp; rfl)) ?_; intro gb315 hg w5 hbox hb; have BK315 := hbox; have GW315 := gZ HB hg; have GE315 := gZ HB hg; replace HB := tB HB hb; clear hb hbox hg; have hcz6_0 := vZ0 BK315; have hcz6_1 := vZ1 BK315; have hfz6_0 := kF BK315.out 0; have hfz6_1 := kF BK315.out 1) | ((with_reducible refine gC (f := 19) rfl ?_); refine goesL_ (some 5) rfl rfl Try.func19 kR rfl #[.agg #[.int .i64 a0_0, .slice A0_1 l0_1.length c0_1]] rfl sQ ?_; (with_reducible refine (impl_IsPuzzle.calls k a0_0 _ _ l0_1 true _ ?side1 ?side2 A2.out).mono ?_); (case side1 => repeat (first | exact (Kd.C_below HR0_1.out HB.out) | (with_reducible refine cA ?_ _) | (with_reducible refine cN ?_ _) | (with_reducible refine cD ?_))); (case side2 => exact HC0_1.out); rintro e w7 ⟨rfl, hb⟩; refine ⟨_, rfl, ?_⟩; replace BK315 := bB BK315 hb; replace HB := tB HB hb; (try clear hb); (try clear hb2); (try clear hk); (try clear hi); have hcz8_0 := vZ0 BK315; have hcz8_1 := vZ1 BK315; have hfz8_0 := kF BK315.out 0; have hfz8_1 := kF BK315.out 1) | ((with_reducible refine gC (f := 67) rfl ?_); refine goesL_ (some 10) rfl rfl Try.func67 kR rfl #[.agg #[.int .i64 a0_0, .slice A0_1 l0_1.length c0_1], .slice A0_1 l0_1.length c0_1] rfl sQ ?_; (with_reducible refine (impl_Puzzle_isSolved.calls k a0_0 _ _ l0_1 _ _ l0_1 t317 _ ?side1 ?side2 ?side3 ?side4 A4.out).mono ?_); (case side1 => repeat (first | exact (Kd.C_below HR0_1.out HB.out) | (with_reducible refine cA ?_ _) | (with_reducible refine cN ?_ _) | (with_reducible refine cD ?_))); (case side2 => exact HC0_1.out); (case side3 => repeat (first | exact (Kd.C_below HR0_1.out HB.out) | (with_reducible refine cA ?_ _) | (with_reducible refine cN ?_ _) | (with_reducible refine cD ?_))); (case side4 => exact HC0_1.out); rintro e w9 ⟨rfl, hb⟩; refine ⟨_, rfl, ?_⟩; replace BK315 := bB BK315 hb; replace HB := tB HB hb; (try clear hb); (try clear hb2); (try clear hk); (try clear hi)))
  go_ret2
  exact ⟨wQ, bE⟩
 ·replace c3 := Bool.eq_false_iff.mpr c3; subst c3; replace H := iF H
  simp only [Option.some.injEq, Prod.mk.injEq] at H
  obtain ⟨rfl, rfl⟩ := H
  go_enter Try.func24, Try.ntmps24
  go_wp2_with (first | ((with_reducible refine gate_dst (N := 1) rfl ?_); refine bV 1 (cs := #[.int .i64 a0_0, .slice A0_1 l0_1.length c0_1]) (t := 31) rfl rfl (by first | (go_simp; done) | (go_simp; rfl)) ?_; intro gb315 hg w10 hbox hb; have BK315 := hbox; have GW315 := gZ HB hg; have GE315 := gZ HB hg; replace HB := tB HB hb; clear hb hbox hg; have hcz11_0 := vZ0 BK315; have hcz11_1 := vZ1 BK315; have hfz11_0 := kF BK315.out 0; have hfz11_1 := kF BK315.out 1) | ((with_reducible refine gC (f := 19) rfl ?_); refine goesL_ (some 5) rfl rfl Try.func19 kR rfl #[.agg #[.int .i64 a0_0, .slice A0_1 l0_1.length c0_1]] rfl sQ ?_; (with_reducible refine (impl_IsPuzzle.calls k a0_0 _ _ l0_1 false _ ?side1 ?side2 A2.out).mono ?_); (case side1 => repeat (first | exact (Kd.C_below HR0_1.out HB.out) | (with_reducible refine cA ?_ _) | (with_reducible refine cN ?_ _) | (with_reducible refine cD ?_))); (case side2 => exact HC0_1.out); rintro e w12 ⟨rfl, hb⟩; refine ⟨_, rfl, ?_⟩; replace BK315 := bB BK315 hb; replace HB := tB HB hb; (try clear hb); (try clear hb2); (try clear hk); (try clear hi)))
  go_ret2
  exact ⟨wQ, bE⟩

def slices_Clone_impl_Peg.f (l0 : List (S_impl_Peg)) : Option ((List (S_impl_Peg))) := (some (([] : List (S_impl_Peg)) : List (S_impl_Peg))).bind fun y318 => (if y318.length + l0.length < 8796093022208 then (some (y318 ++ l0)) else (none))
set_option maxHeartbeats 8000000 in
set_option maxRecDepth 100000 in
theorem slices_Clone_impl_Peg.calls (A0 : Option Addr) (c0 : Nat) (l0 : List (S_impl_Peg)) (r : List (S_impl_Peg)) (w : World) (hr0 : Kd.C kd_impl_Peg w A0 l0.length l0) (hc0 : l0.length ≤ c0) (h : slices_Clone_impl_Peg.f l0 = some r) :
  Calls Try.prog 72 #[.slice A0 l0.length c0] w fun e w' => ∃ v0_ : Value, e = .returned (v0_) ∧ Kd.R kd_impl_Peg 41 w' w.heap.size (fun _ => True) v0_ r ∧ Below w.heap.size w w' := by
 by_cases hA_ : A0 = none
 ·subst hA_; have hn_ : l0 = [] := by
   rcases Nat.eq_zero_or_pos l0.length with h0_ | h0_
   ·exact List.eq_nil_of_length_eq_zero h0_
   ·obtain ⟨ad_, e_, _⟩ := hr0.2.2 h0_
    cases e_
  subst hn_; have hr_ : r = [] := by
   unfold slices_Clone_impl_Peg.f at h
   simp at h
   first | exact h | exact h.symm
  subst hr_; have hq_ := eq_nil (P := Try.prog) 26 41 Try.underlying26 none c0
  simp only [Option.isNone_none] at hq_
  go_enter Try.func72, Try.ntmps72
  go_wp2
  go_ret
  exact ⟨_, rfl, Kd.R_nil _ _ _ _ _, Below.refl _ _⟩
 obtain ⟨ad_, rfl⟩ := Option.ne_none_iff_exists'.1 hA_; have hq_ := eq_nil (P := Try.prog) 26 41 Try.underlying26 (some ad_) c0
 simp only [Option.isNone_some] at hq_
 have HR0 := aM hr0; have HC0 := aM hc0; clear hr0 hc0; have HB := aM (Below.refl w.heap.size w)
 unfold slices_Clone_impl_Peg.f at h; have H := h; clear h
 replace H := lS H; obtain ⟨y318, Ny318, H⟩ := H; replace H := iN H; obtain ⟨c2, H⟩ := H; have LMc2 := aM c2; clear c2; obtain ⟨y321, hy321⟩ : ∃ y_ : List (S_impl_Peg), y_ = (y318 ++ l0) := ⟨_, rfl⟩; rw [← hy321] at H; have Ny321 := aM hy321; clear hy321; obtain rfl := Option.some.inj H
 go_enter Try.func72, Try.ntmps72
 go_wp2_with (first | ((with_reducible refine gate_dst (N := 5) rfl ?_); refine Kd.R_lit kd_impl_Peg _ 41 ?hg (N := 5) ?hd (xs := ([] : List (S_impl_Peg))) (inner := []) (ok := fun _ => True) (okp := fun _ => True) ?hr ?hp (fun _ hk => hk) trivial (Below.refl _ _) (Nat.le_refl _) (by simp) ?_; (case hd => rfl); (case hg => rfl); (case hr => first | (go_simp; done) | (go_simp; rfl)); (case hp => exact (Reps.none _ _)); intro v319 w3 ho4 hb hg_ hnew_; clear hg_ hnew_; (first | rw [← Ny318.out] at ho4 | (simp only [Int.reduceToNat] at ho4; rw [← Ny318.out] at ho4)); have HO320 := aM (Kd.R_lower ho4 (pZ bQ)); replace HB := tB HB hb; clear hb ho4) | ((with_reducible refine gate_builtin (b := .append) (xs := #[.tmp 5, .tmp 6]) rfl ?_); at_builtin; refine Kd.R_append_rows kd_impl_Peg (w0 := w) w.heap.size rfl (.tmp 5) (.tmp 6) 26 41 (.agg #[(.int .i64 0), (.int .i64 0)]) 16 rfl Try.underlying26 info41 rfl (by decide) (by omega) v319 y318 l0 _ _ _ (fun _ => True) (fun _ => False) rfl rfl ?aO ?aR (fun _ _ h => h) (fun _ h => h.elim) ?aF ?aB ?aS ?aL ?_; (case aR => repeat (first | exact (Kd.C_below HR0.out HB.out) | (with_reducible refine cA ?_ _) | (with_reducible refine cN ?_ _) | (with_reducible refine cD ?_))); (case aB => exact bQ); (case aF => exact (fun _ _ => trivial)); (case aO => exact (by (with_reducible repeat (first | apply rA | apply rN | apply rD)); exact HO320.out)); (case aS => exact (pZ bQ)); (case aL => have := LMc2.out; omega); intro v322 w5 ho hb hg hat; rw [← Ny321.out] at ho; have n0_ := aM (hb); have n1_ := aM (ho); clear HB; clear HO320; have HB := n0_; have HO323 := n1_; clear n0_ n1_; clear ho hb hg hat))
 go_ret
 exact ⟨_, by first | rfl | (simp [errW_none, errW_some] <;> rfl) | (simp [*, errW_none, errW_some] <;> rfl), by (with_reducible repeat (first | apply rA | apply rN | apply rD)); exact HO323.out, bQ⟩
end Go.Proofs.Ytoeclfihlhmnpaa.X
