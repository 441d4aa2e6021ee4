-- thin
-- short
-- compact
import Derived.Test.YtklhakfmegbobaaXA
import Derived.Test.YtklhakfmegbobaaX0
import Derived.Test.YtklhakfmegbobaaX7
import Derived.Test.YtklhakfmegbobaaX11
namespace Go.Proofs.Ytklhakfmegbobaa.X
open Go.RowKit Go.Proofs.Ytklhakfmegbobaa.XW Go.Proofs.YtklhakfmegbobaaW.PrintWords Go.Proofs.YtklhakfmegbobaaW.PrintLast Go.Proofs.YtklhakfmegbobaaW.PrintMore
attribute [local go_sem] max2_int min2_int max_two min_two max_three min_three max_four min_four   -- for this text's walks alone
set_option linter.unusedVariables false
set_option linter.unusedSimpArgs false

mutual
def impl_PegOfParts.j0 : Nat → List (S_impl_Peg) → List Int → Bool → Option (Int × Int × Bool)
 | 0, _, _, _ => none
 | k + 1, x0, x1, x19 => if x19 = true then (some (0, 0, false)) else (impl_PegOfParts.l0 k x0 0 x1 (x1.length : Int) 0 0 0)
def impl_PegOfParts.l0 : Nat → List (S_impl_Peg) → Int → List Int → Int → Int → Int → Int → Option (Int × Int × Bool)
 | 0, _, _, _, _, _, _, _ => none
 | k + 1, x0, x7, x22, x23, x24, x270000, x270001 => if x24 < x23 then (if 0 ≤ x24 then (if x24 < (x22.length : Int) then ((impl_within.f (rd x22 x24) (-1000000) 1000000).bind fun t271 => (if t271 = true then (if x24 < (x0.length : Int) then ((impl_Peg_plus.f x270000 x270001 (wrap64 ((rd x22 x24) * ((rd_impl_Peg x0 x24).f0))) (wrap64 ((rd x22 x24) * ((rd_impl_Peg x0 x24).f1)))).bind fun bt274 => (impl_PegOfParts.l0 k x0 (wrap64 (x7 + (rd x22 x24))) x22 x23 (wrap64 (x24 + 1)) bt274.1 bt274.2)) else (none)) else (some (0, 0, false)))) else (none)) else (none)) else ((impl_twice.f k x0).bind fun t276 => (if t276 = 0 then (none) else (if x7 = t276 then (if (Int.tmod x270000 t276) = 0 then (if (Int.tmod x270001 t276) = 0 then ((impl_IsPeg.f (wrap64 (Int.tdiv x270000 t276)) (wrap64 (Int.tdiv x270001 t276))).bind fun t278 => (if t278 = true then (some (wrap64 (Int.tdiv x270000 t276), wrap64 (Int.tdiv x270001 t276), true)) else (some (0, 0, false)))) else (some (0, 0, false))) else (some (0, 0, false))) else (some (0, 0, false)))))
end
def impl_PegOfParts.f (k : Nat) (l0 : List (S_impl_Peg)) (l1 : List Int) : Option (Int × Int × Bool) := (impl_isThree.f k l0).bind fun t268 => (if t268 = true then (impl_PegOfParts.j0 k l0 l1 ((l1.length : Int) != 3)) else (impl_PegOfParts.j0 k l0 l1 true))
theorem impl_PegOfParts.mono_l : ∀ k, (∀ y0 y1 y2, LeO (impl_PegOfParts.j0 k y0 y1 y2) (impl_PegOfParts.j0 (k + 1) y0 y1 y2)) ∧ (∀ y0 y1 y2 y3 y4 y5 y6, LeO (impl_PegOfParts.l0 k y0 y1 y2 y3 y4 y5 y6) (impl_PegOfParts.l0 (k + 1) y0 y1 y2 y3 y4 y5 y6))
 | 0 => ⟨fun _ _ _ r h => by simp [impl_PegOfParts.j0] at h, fun _ _ _ _ _ _ _ r h => by simp [impl_PegOfParts.l0] at h⟩
 | k + 1 => by
  obtain ⟨ih0, ih1⟩ := impl_PegOfParts.mono_l k
  refine ⟨?_, ?_⟩ <;> intros <;> (first | unfold impl_PegOfParts.j0 | unfold impl_PegOfParts.l0) <;> repeat' first | (with_reducible exact ih0 _ _ _) | (with_reducible exact ih1 _ _ _ _ _ _ _) | (with_reducible exact impl_isThree.mono _ _) | (with_reducible exact impl_twice.mono _ _) | (with_reducible exact LeO.refl _) | (with_reducible exact LeO.none _) | (with_reducible refine LeO.ite ?_ ?_) | (with_reducible refine LeO.bind ?_ (fun _ => ?_)) | exact ih0 _ _ _ | exact ih1 _ _ _ _ _ _ _ | exact impl_isThree.mono _ _ | exact impl_twice.mono _ _ | exact LeO.none _ | refine LeO.ite ?_ ?_ | refine LeO.bind ?_ (fun _ => ?_)
theorem impl_PegOfParts.mono : ∀ a0 a1 k, LeO (impl_PegOfParts.f k a0 a1) (impl_PegOfParts.f (k + 1) a0 a1) := by
 intro a0 a1 k
 obtain ⟨ih0, ih1⟩ := impl_PegOfParts.mono_l k
 unfold impl_PegOfParts.f
 repeat' first | (with_reducible exact ih0 _ _ _) | (with_reducible exact ih1 _ _ _ _ _ _ _) | (with_reducible exact impl_isThree.mono _ _) | (with_reducible exact impl_twice.mono _ _) | (with_reducible exact LeO.refl _) | (with_reducible exact LeO.none _) | (with_reducible refine LeO.ite ?_ ?_) | (with_reducible refine LeO.bind ?_ (fun _ => ?_)) | exact ih0 _ _ _ | exact ih1 _ _ _ _ _ _ _ | exact impl_isThree.mono _ _ | exact impl_twice.mono _ _ | exact LeO.none _ | refine LeO.ite ?_ ?_ | refine LeO.bind ?_ (fun _ => ?_)
def impl_PegOfParts.T9 : Bool × List (List Nat × List Nat) := (true, [([], []), ([], []), ([], []), ([], []), ([2, 3], [2, 3]), ([4], [4]), ([5], [5]), ([1, 6], [1, 6]), ([], []), ([], []), ([], []), ([9, 10], [9, 10]), ([11], [11]), ([12], [12]), ([8, 13], [8, 13]), ([7, 14], [7, 14]), ([0, 15], [0, 15]), ([], []), ([], []), ([17, 18], [17, 18]), ([16, 16, 0, 1, 2, 3, 4, 5, 6, 7, 8, 9, 10, 11, 12, 13, 14, 15, 16], [16]), ([19, 20, 0, 1, 2, 3, 4, 5, 6, 7, 8, 9, 10, 11, 12, 13, 14, 15, 16, 17, 18, 19, 20], [17, 19])])
def impl_PegOfParts.B9 : List Nat := [0, 0, 0, 0, 12, 28, 60, 126, 0, 0, 0, 1536, 3584, 7680, 16128, 32766, 65535, 0, 0, 393216, 131071, 2097151]
theorem impl_PegOfParts.tab9 : rtab .any (opsOf Try.f19 9) = impl_PegOfParts.T9 := by kernel_rfl
theorem impl_PegOfParts.bits9 : waitsOk impl_PegOfParts.T9.2 impl_PegOfParts.B9 = true := by kernel_rfl
def impl_PegOfParts.T12 : Bool × List (List Nat × List Nat) := (true, [([], []), ([0], [0]), ([], []), ([1, 2], [1, 2]), ([], []), ([4], [4]), ([], []), ([5, 6], [5, 6]), ([3, 7], [3, 7]), ([], []), ([9, 8, 0, 1, 2, 3, 4, 5, 6, 7, 8, 9], [8, 9])])
def impl_PegOfParts.B12 : List Nat := [0, 1, 0, 7, 0, 16, 0, 112, 255, 0, 1023]
theorem impl_PegOfParts.tab12 : rtab .any (opsOf Try.f19 12) = impl_PegOfParts.T12 := by kernel_rfl
theorem impl_PegOfParts.bits12 : waitsOk impl_PegOfParts.T12.2 impl_PegOfParts.B12 = true := by kernel_rfl
set_option maxHeartbeats 8000000 in
set_option maxRecDepth 100000 in
theorem impl_PegOfParts.calls (k : Nat) (A0 : Option Addr) (c0 : Nat) (l0 : List (S_impl_Peg)) (A1 : Option Addr) (c1 : Nat) (l1 : List Int) (r1 : Int) (r2 : Int) (r3 : Bool) (w : World) (hr0 : Kd.C kd_impl_Peg w A0 l0.length l0) (hc0 : l0.length ≤ c0) (hr1 : Kd.C (Kd.int .i64) w A1 l1.length l1) (hc1 : l1.length ≤ c1) (h : impl_PegOfParts.f k l0 l1 = some (r1, r2, r3)) :
  Calls Try.prog 19 #[.slice A0 l0.length c0, .slice A1 l1.length c1] w fun e w' => e = .returned (.tuple #[.agg #[.int .i64 r1, .int .i64 r2], .bool r3]) ∧ Below w.heap.size w w' := by
 have hu26 := Try.underlying26; have HR0 := aM hr0; have HC0 := aM hc0; clear hr0 hc0; have HR1 := aM hr1; have HC1 := aM hc1; clear hr1 hc1; have HB := aM (Below.refl w.heap.size w)
 unfold impl_PegOfParts.f at h; have H := h; clear h
 have HC3 := aM H; clear H
 go_enter Try.func19, Try.ntmps19
 go_upto_region 1 with (first | ((with_reducible refine gate_dst (N := 4) rfl ?_); (try (refine gate_guard (by rfl) ?_; dsimp only)); refine bV 4 (cs := #[.int .i64 0, .int .i64 0]) (t := 26) rfl rfl (by first | (go_simp; done) | (go_simp; rfl)) ?_; intro gb267 hg w4 hbox hb; have BK267 := hbox; have GW267 := gZ HB hg; have GE267 := gZ HB hg; replace HB := tB HB hb; clear hb hbox hg))
 (try simp only [Act.put, sI, sZ, sS])
 go_cut [19] (fun v19 wc => ∃ (kq : Nat) (x19_2 : Bool), v19 = .bool x19_2 ∧ Aside0 (impl_PegOfParts.j0 kq l0 l1 x19_2 = some (r1, r2, r3)) ∧ Aside0 (kq ≤ k) ∧ Aside0 (wc.heap[gb267]? = some (.cells #[.int .i64 0, .int .i64 0] 26 (0, 0))) ∧ Aside0 (Below w.heap.size w wc))
 case first =>
  have H := HC3.out; clear HC3; replace H := bS H; obtain ⟨t268, A5, H⟩ := H
  by_cases c6 : t268 = true
  ·subst c6; replace H := iT H; have H' := aM H; clear H
   go_wp2_with (first | ((with_reducible refine gC (f := 58) rfl ?_); refine goesL_ (some 13) rfl rfl Try.func58 kR rfl #[.slice A0 l0.length c0] rfl sQ ?_; (with_reducible refine (impl_isThree.calls k _ _ l0 true _ ?side1 ?side2 A5.out).mono ?_); (case side1 => repeat (first | exact (Kd.C_below HR0.out HB.out) | (with_reducible refine cA ?_ _) | (with_reducible refine cN ?_ _) | (with_reducible refine cD ?_))); (case side2 => exact HC0.out); rintro e w7 ⟨rfl, hb⟩; refine ⟨_, rfl, ?_⟩; replace BK267 := bB BK267 hb; replace HB := tB HB hb; (try clear hb); (try clear hb2); (try clear hk); (try clear hi)))
   go_meet
   case rel => exact ⟨_, (((l1.length : Int) != 3)), eQ, H', ⟨by first | omega | exact Nat.le_refl _⟩, ⟨gQ BK267⟩, ⟨bE⟩⟩
  ·replace c6 := Bool.eq_false_iff.mpr c6; subst c6; replace H := iF H; have H' := aM H; clear H
   go_wp2_with (first | ((with_reducible refine gC (f := 58) rfl ?_); refine goesL_ (some 13) rfl rfl Try.func58 kR rfl #[.slice A0 l0.length c0] rfl sQ ?_; (with_reducible refine (impl_isThree.calls k _ _ l0 false _ ?side1 ?side2 A5.out).mono ?_); (case side1 => repeat (first | exact (Kd.C_below HR0.out HB.out) | (with_reducible refine cA ?_ _) | (with_reducible refine cN ?_ _) | (with_reducible refine cD ?_))); (case side2 => exact HC0.out); rintro e w8 ⟨rfl, hb⟩; refine ⟨_, rfl, ?_⟩; replace BK267 := bB BK267 hb; replace HB := tB HB hb; (try clear hb); (try clear hb2); (try clear hk); (try clear hi)))
   go_meet
   case rel => exact ⟨_, (true), eQ, H', ⟨by first | omega | exact Nat.le_refl _⟩, ⟨gQ BK267⟩, ⟨bE⟩⟩
 case rest =>
  clear HC3; (try clear c1); obtain ⟨kq, x19_2, rfl, HA, HJ2, BK267, HB⟩ := hcut
  cases kq with
  | zero => exact absurd HA.out (by simp [impl_PegOfParts.j0])
  | succ kj2 =>
   have H := HA.out; clear HA
   simp only [impl_PegOfParts.j0] at H
   by_cases c9 : x19_2 = true
   ·subst c9; replace H := iT H
    simp only [Option.some.injEq, Prod.mk.injEq] at H
    obtain ⟨rfl, rfl, rfl⟩ := H; have hcz10_0 : wc.cell? ⟨gb267, 0, none⟩ = some (.int .i64 0) := vZ0 BK267; have hcz10_1 : wc.cell? ⟨gb267, 1, none⟩ = some (.int .i64 0) := vZ1 BK267; have hfz10_0 := kF BK267.out 0; have hfz10_1 := kF BK267.out 1; go_wp2
    refine bodyPost_ret (results_ct rfl _ _ gb267 26 #[.int .i64 0, .int .i64 0] (0, 0) _ rfl (fQ BK267) Try.underlying26 rfl kR) rfl ?_
    exact ⟨wQ, bE⟩
   ·replace c9 := Bool.eq_false_iff.mpr c9; subst c9; replace H := iF H; have H' := aM H; clear H
    go_wp2_with (first | ((with_reducible refine gate_dst (N := 6) rfl ?_); (try (refine gate_guard (by rfl) ?_; dsimp only)); refine bV 6 (cs := #[.int .i64 0, .int .i64 0]) (t := 26) rfl rfl (by first | (go_simp; done) | (go_simp; rfl)) ?_; intro gb269 hg w11 hbox hb; have BK269 := hbox; have GW269 := gZ HB hg; have GE269 := gZ HB hg; have NB267_269 := nG BK267 hg; have NB269_267 := nH BK267 hg; replace BK267 := bB BK267 hb; replace HB := tB HB hb; clear hb hbox hg; have hnb12 := NB269_267.out; have hnc12 := NB267_269.out; have hcz13_0 := vZ0 BK269; have hcz13_1 := vZ1 BK269; have hfz13_0 := kF BK269.out 0; have hfz13_1 := kF BK269.out 1))
    go_loopg [7, 24] kj2 (fun kq v7 v24 w' => ∃ (x7_2 : Int) (x24_2 : Int) (x268000_2 : Int) (x268001_2 : Int) (x270000_2 : Int) (x270001_2 : Int), v7 = .int .i64 x7_2 ∧ v24 = .int .i64 x24_2 ∧ Aside0 (impl_PegOfParts.l0 kq l0 x7_2 l1 (l1.length : Int) x24_2 x270000_2 x270001_2 = some (r1, r2, r3)) ∧ Aside0 (kq ≤ kj2) ∧ Aside0 (w'.heap[gb267]? = some (.cells #[.int .i64 x268000_2, .int .i64 x268001_2] 26 (0, 0))) ∧ Aside0 (w'.heap[gb269]? = some (.cells #[.int .i64 x270000_2, .int .i64 x270001_2] 26 (0, 0))) ∧ Aside0 (Below w.heap.size w w'))
    case atStart => exact ⟨(0), (0), (0), (0), (0), (0), eQ, eQ, H', ⟨Nat.le_refl _⟩, ⟨fQ BK267⟩, ⟨fQ BK269⟩, ⟨bE⟩⟩
    case round =>
     clear H'; (try clear c1); (try clear c9); (try clear hcz10_0); (try clear hcz10_1); (try clear hcz13_0); (try clear hcz13_1); (try clear hfz10_0); (try clear hfz10_1); (try clear hfz13_0); (try clear hfz13_1); obtain ⟨x7_2, x24_2, x268000_2, x268001_2, x270000_2, x270001_2, rfl, rfl, HA, HK2, BK267, BK269, HB⟩ := hrel
     cases gk with
     | zero => exact absurd HA.out (by simp [impl_PegOfParts.l0])
     | succ k2 =>
      have H := HA.out; clear HA
      simp only [impl_PegOfParts.l0] at H
      by_cases c14 : x24_2 < (l1.length : Int)
      ·rw [if_pos c14] at H; have c14b0 := dE c14; clear c14; replace H := iD H; obtain ⟨c15b0, H⟩ := H; replace H := iD H; obtain ⟨c16b0, H⟩ := H; replace H := bS H; obtain ⟨t271, A17, H⟩ := H
       by_cases c18 : t271 = true
       ·subst c18; replace H := iT H; replace H := iD H; obtain ⟨c19b0, H⟩ := H; replace H := bS H; obtain ⟨⟨t274, t275⟩, A20, H⟩ := H; have H' := aM H; clear H; have p270 : 0 ≤ (x24_2 : Int) := dT aQ; have q270 : x24_2 < (l1.length : Int) := dT aQ; obtain ⟨ad270, e270, hx270_0⟩ := Kd.at_int HR1.out x24_2 p270 q270
        cases e270
        replace hx270_0 := hC HB hx270_0; replace p270 := eq_true p270; replace q270 := eq_true q270
        try go_wp2_with (first | ((with_reducible refine gC (f := 59) rfl ?_); refine goesL_ (some 30) rfl rfl Try.func59 kR rfl #[.int .i64 (rd l1 x24_2), .int .i64 (-1000000), .int .i64 1000000] rfl sQ ?_; (with_reducible refine (impl_within.calls (rd l1 x24_2) (-1000000) 1000000 true _ A17.out).mono ?_); rintro e w' ⟨rfl, ⟨nd, rfl⟩⟩; refine ⟨_, rfl, ?_⟩; (try (rw [drewN_self wr]; generalize hq_ : World.drewN wr _ = wr; have n0_ : Aside0 (wr.heap[gb267]? = some (.cells #[.int .i64 x268000_2, .int .i64 x268001_2] 26 (0, 0))) := ⟨by rw [← hq_]; exact (gQ BK267)⟩; have n1_ : Aside0 (wr.heap[gb269]? = some (.cells #[.int .i64 x270000_2, .int .i64 x270001_2] 26 (0, 0))) := ⟨by rw [← hq_]; exact (gQ BK269)⟩; have n2_ : Aside0 (Below w.heap.size w wr) := ⟨by rw [← hq_]; exact bE⟩; clear BK267 BK269 HB hq_; have BK267 := n0_; have BK269 := n1_; have HB := n2_; clear n0_ n1_ n2_))))
        replace BK267 := aM (kD BK267.out); replace BK269 := aM (kD BK269.out); replace HB := aM (pD HB.out); have p272 : 0 ≤ (x24_2 : Int) := dT aQ; have q272 : x24_2 < (l0.length : Int) := dT aQ; obtain ⟨ad272, e272, hx272_0, hx272_1⟩ := at_impl_Peg HR0.out x24_2 p272 q272; have hw272_1 := hx272_1; have hw272_0 := hx272_0
        cases e272
        replace hx272_0 := hC HB hx272_0; replace hx272_1 := hC HB hx272_1; replace p272 := eq_true p272; replace q272 := eq_true q272; have p273 : 0 ≤ (x24_2 : Int) := dT aQ; have q273 : x24_2 < (l0.length : Int) := dT aQ; obtain ⟨ad273, e273, hx273_0, hx273_1⟩ := at_impl_Peg HR0.out x24_2 p273 q273; have hw273_1 := hx273_1; have hw273_0 := hx273_0; obtain rfl : ad272 = ad273 := (by injection e273)
        replace hx273_0 := hC HB hx273_0; replace hx273_1 := hC HB hx273_1; replace p273 := eq_true p273; replace q273 := eq_true q273
        refine start_ (n := 22) (S := fun w' => w'.cell? ⟨gb269, 0, none⟩ = some (.int .i64 x270000_2) ∧ w'.cell? ⟨gb269, 1, none⟩ = some (.int .i64 x270001_2) ∧ w'.cell? (ad272.add ((x24_2).toNat * 2)) = some (.int .i64 ((rd_impl_Peg l0 x24_2).f0)) ∧ w'.cell? ⟨(ad272.add ((x24_2).toNat * 2)).block, (ad272.add ((x24_2).toNat * 2)).off + 1, none⟩ = some (.int .i64 ((rd_impl_Peg l0 x24_2).f1)) ∧ w'.cell? (ad272.add ((x24_2).toNat * 2)) = some (.int .i64 ((rd_impl_Peg l0 x24_2).f0)) ∧ w'.cell? ⟨(ad272.add ((x24_2).toNat * 2)).block, (ad272.add ((x24_2).toNat * 2)).off + 1, none⟩ = some (.int .i64 ((rd_impl_Peg l0 x24_2).f1))) (ds := [20]) (bA 22 0) kR rfl rfl ⟨vZ0 BK269, vZ1 BK269, (hC HB hw272_0 :), (hC HB hw272_1 :), (hC HB hw273_0 :), (hC HB hw273_1 :)⟩ (fun hHeld => ?_); refine with_tabW impl_PegOfParts.tab9 impl_PegOfParts.bits9 (fun HT_ HW_ => ?_)
        generalize wr.drew = w21 at BK267 BK269 HB hx272_0 hx272_1 hx273_0 hx273_1 hHeld ⊢
        refine pU 1 34 (bA 22 2) HT_ ?_; refine pU 2 35 (bA 22 6) HT_ ?_; refine pU 3 36 (bA 22 14) HT_ ?_; refine pU 4 37 (bA 22 30) HT_ ?_; refine pU 5 38 (bA 22 62) HT_ ?_; refine pU 8 41 (bA 22 318) HT_ ?_; refine pU 9 42 (bA 22 830) HT_ ?_; refine pU 10 43 (bA 22 1854) HT_ ?_; refine pU 11 44 (bA 22 3902) HT_ ?_; refine pU 12 45 (bA 22 7998) HT_ ?_; refine pU 17 50 (bA 22 139070) HT_ ?_; refine pU 18 51 (bA 22 401214) HT_ ?_; refine pU 19 52 (bA 22 925502) HT_ ?_
        refine tU 0 33 (bA 22 925503) HT_ HW_ hHeld ?_ (hy := Or.inl ⟨by rfl, by rintro w' ⟨s0, s1, s2, s3, s4, s5⟩; go_simp; with_reducible rfl⟩)
        refine tU 6 39 (bA 22 925567) HT_ HW_ hHeld ?_ (hy := Or.inl ⟨by rfl, by rintro w' ⟨s0, s1, s2, s3, s4, s5⟩; go_simp; with_reducible rfl⟩)
        refine pU 7 40 (bA 22 925695) HT_ ?_
        refine tU 13 46 (bA 22 933887) HT_ HW_ hHeld ?_ (hy := Or.inl ⟨by rfl, by rintro w' ⟨s0, s1, s2, s3, s4, s5⟩; go_simp; with_reducible rfl⟩)
        refine pU 14 47 (bA 22 950271) HT_ ?_; refine pU 15 48 (bA 22 983039) HT_ ?_
        refine oU 16 49 (bA 22 1048575) HT_ (fun K hK => ?_)
        refine goes_ Try.func60 kR rfl #[.agg #[.int .i64 x270000_2, .int .i64 x270001_2], .agg #[.int .i64 (wrap64 ((rd l1 x24_2) * ((rd_impl_Peg l0 x24_2).f0))), .int .i64 (wrap64 ((rd l1 x24_2) * ((rd_impl_Peg l0 x24_2).f1)))]] (by rfl) rfl rfl sQ ?_
        with_reducible refine (impl_Peg_plus.calls x270000_2 x270001_2 (wrap64 ((rd l1 x24_2) * ((rd_impl_Peg l0 x24_2).f0))) (wrap64 ((rd l1 x24_2) * ((rd_impl_Peg l0 x24_2).f1))) t274 t275 _ A20.out).mono ?_
        rintro e w22 ⟨rfl, hb⟩; refine ⟨_, rfl, ?_⟩; replace BK267 := bB BK267 hb; replace BK269 := bB BK269 hb; replace HB := tB HB hb; (try clear hb); (try clear hb2); (try clear hk); (try clear hi)
        refine hK.out _ _ ⟨vZ0 BK269, vZ1 BK269, (hC HB hw272_0 :), (hC HB hw272_1 :), (hC HB hw273_0 :), (hC HB hw273_1 :)⟩ (fun hHeld => ?_)
        clear hK K
        refine nU ?_
        refine last_ (i := 20) (N := none) (bA 22 2097151) rfl rfl (one_of HT_.out kR) (by decide) (fun K hK => ?_)
        have hs23 : w22.cell? ⟨gb269, 0, none⟩ = some (.int .i64 x270000_2) := vZ0 BK269; have hfs23 := kF BK269.out 0; have hns23_0 := NB267_269.out; have hms23_0 := NB269_267.out; have hs24 : w22.cell? ⟨gb269, 1, none⟩ = some (.int .i64 x270001_2) := vZ1 BK269; have hfs24 := kF BK269.out 1; have hns24_0 := NB267_269.out; have hms24_0 := NB269_267.out
        refine skip_ (w1 := ?_) (by rfl) rfl ?_ ?_
        rotate_left
        ·go_simp
         rfl
        refine hK.out _ _ ?_
        clear hK K; refine pU 21 7 (bA 22 4194303) HT_ ?_
        refine done_ (done_of HT_.out kR) ?_
        try go_wp2
        go_roundg k2
        case measure => have := HJ2.out; have := HK2.out; omega
        case rel => exact ⟨(wrap64 (x7_2 + (rd l1 x24_2))), (wrap64 (x24_2 + 1)), (x268000_2), (x268001_2), (t274), (t275), eQ, eQ, H', ⟨by have := HJ2.out; have := HK2.out; omega⟩, ⟨fQ BK267⟩, ⟨fQ BK269⟩, ⟨bE⟩⟩
       ·replace c18 := Bool.eq_false_iff.mpr c18; subst c18; replace H := iF H
        simp only [Option.some.injEq, Prod.mk.injEq] at H
        obtain ⟨rfl, rfl, rfl⟩ := H; have p270 : 0 ≤ (x24_2 : Int) := dT aQ; have q270 : x24_2 < (l1.length : Int) := dT aQ; obtain ⟨ad270, e270, hx270_0⟩ := Kd.at_int HR1.out x24_2 p270 q270
        cases e270
        replace hx270_0 := hC HB hx270_0; replace p270 := eq_true p270; replace q270 := eq_true q270
        go_wp2_with (first | ((with_reducible refine gC (f := 59) rfl ?_); refine goesL_ (some 30) rfl rfl Try.func59 kR rfl #[.int .i64 (rd l1 x24_2), .int .i64 (-1000000), .int .i64 1000000] rfl sQ ?_; (with_reducible refine (impl_within.calls (rd l1 x24_2) (-1000000) 1000000 false _ A17.out).mono ?_); rintro e w' ⟨rfl, ⟨nd, rfl⟩⟩; refine ⟨_, rfl, ?_⟩; (try (rw [drewN_self wr]; generalize hq_ : World.drewN wr _ = wr; have n0_ : Aside0 (wr.heap[gb267]? = some (.cells #[.int .i64 x268000_2, .int .i64 x268001_2] 26 (0, 0))) := ⟨by rw [← hq_]; exact (gQ BK267)⟩; have n1_ : Aside0 (wr.heap[gb269]? = some (.cells #[.int .i64 x270000_2, .int .i64 x270001_2] 26 (0, 0))) := ⟨by rw [← hq_]; exact (gQ BK269)⟩; have n2_ : Aside0 (Below w.heap.size w wr) := ⟨by rw [← hq_]; exact bE⟩; clear BK267 BK269 HB hq_; have BK267 := n0_; have BK269 := n1_; have HB := n2_; clear n0_ n1_ n2_)); have hnb25 := NB267_269.out; have hnc25 := NB269_267.out; have hcz26_0 : wr.cell? ⟨gb267, 0, none⟩ = some (.int .i64 x268000_2) := vZ0 BK267; have hcz26_1 : wr.cell? ⟨gb267, 1, none⟩ = some (.int .i64 x268001_2) := vZ1 BK267; have hfz26_0 := kF BK267.out 0; have hfz26_1 := kF BK267.out 1))
        refine bodyPost_ret (results_ct rfl _ _ gb267 26 #[.int .i64 0, .int .i64 0] (0, 0) _ rfl (fQ BK267) Try.underlying26 rfl kR) rfl ?_
        exact ⟨wQ, bE⟩
      ·rw [if_neg c14] at H; have c14b0 := decide_eq_false c14; clear c14; replace H := bS H; obtain ⟨t276, A27, H⟩ := H; replace H := iM H; obtain ⟨c28, H⟩ := H; have c28b0 : (t276 == 0) = false := beq_eq_false_iff_ne.mpr c28; have c28b1 : (t276 != 0) = true := bne_iff_ne.mpr c28
       by_cases c29 : x7_2 = t276
       ·rw [if_pos c29] at H; have c29b0 : (x7_2 == t276) = true := beq_iff_eq.mpr c29; have c29b1 : (x7_2 != t276) = false := bne_eq_false_iff_eq.mpr c29; clear c29
        by_cases c30 : (Int.tmod x270000_2 t276) = 0
        ·rw [if_pos c30] at H; have c30b0 : ((Int.tmod x270000_2 t276) == 0) = true := beq_iff_eq.mpr c30; have c30b1 : ((Int.tmod x270000_2 t276) != 0) = false := bne_eq_false_iff_eq.mpr c30; clear c30
         by_cases c31 : (Int.tmod x270001_2 t276) = 0
         ·rw [if_pos c31] at H; have c31b0 : ((Int.tmod x270001_2 t276) == 0) = true := beq_iff_eq.mpr c31; have c31b1 : ((Int.tmod x270001_2 t276) != 0) = false := bne_eq_false_iff_eq.mpr c31; clear c31; replace H := bS H; obtain ⟨t278, A32, H⟩ := H
          by_cases c33 : t278 = true
          ·subst c33; replace H := iT H
           simp only [Option.some.injEq, Prod.mk.injEq] at H
           obtain ⟨rfl, rfl, rfl⟩ := H
           try go_wp2_with (first | ((with_reducible refine gC (f := 61) rfl ?_); refine goesL_ (some 55) rfl rfl Try.func61 kR rfl #[.slice A0 l0.length c0] rfl sQ ?_; (with_reducible refine (impl_twice.calls k2 _ _ l0 t276 _ ?side1 ?side2 A27.out).mono ?_); (case side1 => repeat (first | exact (Kd.C_below HR0.out HB.out) | (with_reducible refine cA ?_ _) | (with_reducible refine cN ?_ _) | (with_reducible refine cD ?_))); (case side2 => exact HC0.out); rintro e w34 ⟨rfl, hb⟩; refine ⟨_, rfl, ?_⟩; replace BK267 := bB BK267 hb; replace BK269 := bB BK269 hb; replace HB := tB HB hb; (try clear hb); (try clear hb2); (try clear hk); (try clear hi)))
           replace BK267 := aM (kD BK267.out); replace BK269 := aM (kD BK269.out); replace HB := aM (pD HB.out)
           refine start_ (n := 11) (S := fun w' => w'.cell? ⟨gb269, 0, none⟩ = some (.int .i64 x270000_2) ∧ w'.cell? ⟨gb269, 1, none⟩ = some (.int .i64 x270001_2)) (ds := []) (bA 11 0) kR rfl kR ⟨vZ0 BK269, vZ1 BK269⟩ (fun hHeld => ?_); refine with_tabW impl_PegOfParts.tab12 impl_PegOfParts.bits12 (fun HT_ HW_ => ?_)
           generalize w34.drew = w35 at BK267 BK269 HB hHeld ⊢
           refine pU 0 56 (bA 11 1) HT_ ?_; refine pU 2 58 (bA 11 5) HT_ ?_; refine pU 4 60 (bA 11 21) HT_ ?_; refine pU 6 62 (bA 11 85) HT_ ?_
           refine tU 1 57 (bA 11 87) HT_ HW_ hHeld ?_ (hy := Or.inl ⟨by rfl, by rintro w' ⟨s0, s1⟩; go_simp; with_reducible rfl⟩)
           refine pU 3 59 (bA 11 95) HT_ ?_
           refine tU 5 61 (bA 11 127) HT_ HW_ hHeld ?_ (hy := Or.inl ⟨by rfl, by rintro w' ⟨s0, s1⟩; go_simp; with_reducible rfl⟩)
           refine pU 7 63 (bA 11 255) HT_ ?_; refine pU 8 64 (bA 11 511) HT_ ?_
           refine oU 9 11 (bA 11 1023) HT_ (fun K hK => ?_)
           refine box_step ?hg (N := 11) ?hd (cs := #[.int .i64 0, .int .i64 0]) (t := 26) ?hr ?_; (case hd => rfl); (case hg => rfl); (case hr => first | (go_simp; done) | (go_simp; rfl))
           intro gb277 hg w36 hbox hb
           have BK277 := aM (hbox); have GW277 := gZ HB hg; have GE277 := gZ HB hg; have NB267_277 := nG BK267 hg; have NB277_267 := nH BK267 hg; have NB269_277 := nG BK269 hg; have NB277_269 := nH BK269 hg; replace BK267 := bB BK267 hb; replace BK269 := bB BK269 hb; replace HB := tB HB hb; clear hb hbox hg
           refine hK.out _ _ ⟨vZ0 BK269, vZ1 BK269⟩ (fun hHeld => ?_)
           clear hK K
           refine nU ?_
           refine one_ (i := 10) (N := none) (bA 11 2047) rfl rfl (one_of HT_.out kR) (by decide) (fun K hK => ?_)
           have hs37 : w36.cell? ⟨gb277, 0, none⟩ = some (.int .i64 0) := vZ0 BK277; have hfs37 := kF BK277.out 0; have hns37_0 := NB267_277.out; have hns37_1 := NB269_277.out; have hms37_0 := NB277_267.out; have hms37_1 := NB277_269.out; have hs38 : w36.cell? ⟨gb277, 1, none⟩ = some (.int .i64 0) := vZ1 BK277; have hfs38 := kF BK277.out 1; have hns38_0 := NB267_277.out; have hns38_1 := NB269_277.out; have hms38_0 := NB277_267.out; have hms38_1 := NB277_269.out
           refine skip_ (w1 := ?_) (by rfl) rfl ?_ ?_
           rotate_left
           ·go_simp
            rfl
           refine hK.out _ _ ⟨((cell_far (p := ⟨gb277, _, none⟩) NB269_277.out _).trans (((cell_far (p := ⟨gb277, _, none⟩) NB269_277.out _).trans (hHeld.1)))), ((cell_far (p := ⟨gb277, _, none⟩) NB269_277.out _).trans (((cell_far (p := ⟨gb277, _, none⟩) NB269_277.out _).trans (hHeld.2))))⟩ (fun hHeld => ?_)
           clear hK K
           refine done_ (done_of HT_.out kR) ?_
           have hnb39 := NB269_267.out; have hnc39 := NB267_269.out; have hnb40 := NB269_277.out; have hnc40 := NB277_269.out; have hcz41_0 := vZ0 BK269; have hcz41_1 := vZ1 BK269; have hfz41_0 := kF BK269.out 0; have hfz41_1 := kF BK269.out 1; have hnb42 := NB277_267.out; have hnc42 := NB267_277.out; have hcz43_0 := vZ0 BK277; have hcz43_1 := vZ1 BK277; have hfz43_0 := kF BK277.out 0; have hfz43_1 := kF BK277.out 1
           try go_wp2_with (first | (go_at_call 62; (with_reducible refine (impl_IsPeg.calls (wrap64 (Int.tdiv x270000_2 t276)) (wrap64 (Int.tdiv x270001_2 t276)) true _ A32.out).mono ?_); rintro e w44 ⟨rfl, hb⟩; replace BK267 := aM (blk_below (g := gb267) (o := .cells #[.int .i64 x268000_2, .int .i64 x268001_2] 26 (0, 0)) (fQ BK267) hb); replace BK269 := aM (blk_below (g := gb269) (o := .cells #[.int .i64 x270000_2, .int .i64 x270001_2] 26 (0, 0)) (fQ BK269) hb); replace BK277 := aM (blk_below (g := gb277) (o := .cells #[.int .i64 (wrap64 (Int.tdiv x270000_2 t276)), .int .i64 (wrap64 (Int.tdiv x270001_2 t276))] 26 (0, 0)) (fQ BK277) hb); replace HB := tB HB hb; (try clear hb); (try clear hb2); (try clear hk); (try clear hi); have hcz45_0 := vZ0 BK277; have hcz45_1 := vZ1 BK277; have hfz45_0 := kF BK277.out 0; have hfz45_1 := kF BK277.out 1; have hcz46_0 := vZ0 BK267; have hcz46_1 := vZ1 BK267; have hfz46_0 := kF BK267.out 0; have hfz46_1 := kF BK267.out 1))
           refine bodyPost_ret (results_ct rfl _ _ gb267 26 #[.int .i64 (wrap64 (Int.tdiv x270000_2 t276)), .int .i64 (wrap64 (Int.tdiv x270001_2 t276))] (0, 0) _ rfl (fQ BK267) Try.underlying26 rfl kR) rfl ?_
           exact ⟨wQ, bE⟩
          ·replace c33 := Bool.eq_false_iff.mpr c33; subst c33; replace H := iF H
           simp only [Option.some.injEq, Prod.mk.injEq] at H
           obtain ⟨rfl, rfl, rfl⟩ := H
           try go_wp2_with (first | ((with_reducible refine gC (f := 61) rfl ?_); refine goesL_ (some 55) rfl rfl Try.func61 kR rfl #[.slice A0 l0.length c0] rfl sQ ?_; (with_reducible refine (impl_twice.calls k2 _ _ l0 t276 _ ?side1 ?side2 A27.out).mono ?_); (case side1 => repeat (first | exact (Kd.C_below HR0.out HB.out) | (with_reducible refine cA ?_ _) | (with_reducible refine cN ?_ _) | (with_reducible refine cD ?_))); (case side2 => exact HC0.out); rintro e w47 ⟨rfl, hb⟩; refine ⟨_, rfl, ?_⟩; replace BK267 := bB BK267 hb; replace BK269 := bB BK269 hb; replace HB := tB HB hb; (try clear hb); (try clear hb2); (try clear hk); (try clear hi)))
           replace BK267 := aM (kD BK267.out); replace BK269 := aM (kD BK269.out); replace HB := aM (pD HB.out)
           refine start_ (n := 11) (S := fun w' => w'.cell? ⟨gb269, 0, none⟩ = some (.int .i64 x270000_2) ∧ w'.cell? ⟨gb269, 1, none⟩ = some (.int .i64 x270001_2)) (ds := []) (bA 11 0) kR rfl kR ⟨vZ0 BK269, vZ1 BK269⟩ (fun hHeld => ?_); refine with_tabW impl_PegOfParts.tab12 impl_PegOfParts.bits12 (fun HT_ HW_ => ?_)
           generalize w47.drew = w48 at BK267 BK269 HB hHeld ⊢
           refine pU 0 56 (bA 11 1) HT_ ?_; refine pU 2 58 (bA 11 5) HT_ ?_; refine pU 4 60 (bA 11 21) HT_ ?_; refine pU 6 62 (bA 11 85) HT_ ?_
           refine tU 1 57 (bA 11 87) HT_ HW_ hHeld ?_ (hy := Or.inl ⟨by rfl, by rintro w' ⟨s0, s1⟩; go_simp; with_reducible rfl⟩)
           refine pU 3 59 (bA 11 95) HT_ ?_
           refine tU 5 61 (bA 11 127) HT_ HW_ hHeld ?_ (hy := Or.inl ⟨by rfl, by rintro w' ⟨s0, s1⟩; go_simp; with_reducible rfl⟩)
           refine pU 7 63 (bA 11 255) HT_ ?_; refine pU 8 64 (bA 11 511) HT_ ?_
           refine oU 9 11 (bA 11 1023) HT_ (fun K hK => ?_)
           refine box_step ?hg (N := 11) ?hd (cs := #[.int .i64 0, .int .i64 0]) (t := 26) ?hr ?_; (case hd => rfl); (case hg => rfl); (case hr => first | (go_simp; done) | (go_simp; rfl))
           intro gb277 hg w49 hbox hb
           have BK277 := aM (hbox); have GW277 := gZ HB hg; have GE277 := gZ HB hg; have NB267_277 := nG BK267 hg; have NB277_267 := nH BK267 hg; have NB269_277 := nG BK269 hg; have NB277_269 := nH BK269 hg; replace BK267 := bB BK267 hb; replace BK269 := bB BK269 hb; replace HB := tB HB hb; clear hb hbox hg
           refine hK.out _ _ ⟨vZ0 BK269, vZ1 BK269⟩ (fun hHeld => ?_)
           clear hK K
           refine nU ?_
           refine one_ (i := 10) (N := none) (bA 11 2047) rfl rfl (one_of HT_.out kR) (by decide) (fun K hK => ?_)
           have hs50 : w49.cell? ⟨gb277, 0, none⟩ = some (.int .i64 0) := vZ0 BK277; have hfs50 := kF BK277.out 0; have hns50_0 := NB267_277.out; have hns50_1 := NB269_277.out; have hms50_0 := NB277_267.out; have hms50_1 := NB277_269.out; have hs51 : w49.cell? ⟨gb277, 1, none⟩ = some (.int .i64 0) := vZ1 BK277; have hfs51 := kF BK277.out 1; have hns51_0 := NB267_277.out; have hns51_1 := NB269_277.out; have hms51_0 := NB277_267.out; have hms51_1 := NB277_269.out
           refine skip_ (w1 := ?_) (by rfl) rfl ?_ ?_
           rotate_left
           ·go_simp
            rfl
           refine hK.out _ _ ⟨((cell_far (p := ⟨gb277, _, none⟩) NB269_277.out _).trans (((cell_far (p := ⟨gb277, _, none⟩) NB269_277.out _).trans (hHeld.1)))), ((cell_far (p := ⟨gb277, _, none⟩) NB269_277.out _).trans (((cell_far (p := ⟨gb277, _, none⟩) NB269_277.out _).trans (hHeld.2))))⟩ (fun hHeld => ?_)
           clear hK K
           refine done_ (done_of HT_.out kR) ?_
           have hnb52 := NB269_267.out; have hnc52 := NB267_269.out; have hnb53 := NB269_277.out; have hnc53 := NB277_269.out; have hcz54_0 := vZ0 BK269; have hcz54_1 := vZ1 BK269; have hfz54_0 := kF BK269.out 0; have hfz54_1 := kF BK269.out 1; have hnb55 := NB277_267.out; have hnc55 := NB267_277.out; have hcz56_0 := vZ0 BK277; have hcz56_1 := vZ1 BK277; have hfz56_0 := kF BK277.out 0; have hfz56_1 := kF BK277.out 1
           try go_wp2_with (first | (go_at_call 62; (with_reducible refine (impl_IsPeg.calls (wrap64 (Int.tdiv x270000_2 t276)) (wrap64 (Int.tdiv x270001_2 t276)) false _ A32.out).mono ?_); rintro e w57 ⟨rfl, hb⟩; replace BK267 := aM (blk_below (g := gb267) (o := .cells #[.int .i64 x268000_2, .int .i64 x268001_2] 26 (0, 0)) (fQ BK267) hb); replace BK269 := aM (blk_below (g := gb269) (o := .cells #[.int .i64 x270000_2, .int .i64 x270001_2] 26 (0, 0)) (fQ BK269) hb); replace BK277 := aM (blk_below (g := gb277) (o := .cells #[.int .i64 (wrap64 (Int.tdiv x270000_2 t276)), .int .i64 (wrap64 (Int.tdiv x270001_2 t276))] 26 (0, 0)) (fQ BK277) hb); replace HB := tB HB hb; (try clear hb); (try clear hb2); (try clear hk); (try clear hi); have hcz58_0 := vZ0 BK267; have hcz58_1 := vZ1 BK267; have hfz58_0 := kF BK267.out 0; have hfz58_1 := kF BK267.out 1))
           refine bodyPost_ret (results_ct rfl _ _ gb267 26 #[.int .i64 0, .int .i64 0] (0, 0) _ rfl (fQ BK267) Try.underlying26 rfl kR) rfl ?_
           exact ⟨wQ, bE⟩
         ·rw [if_neg c31] at H; have c31b0 : ((Int.tmod x270001_2 t276) == 0) = false := beq_eq_false_iff_ne.mpr c31; have c31b1 : ((Int.tmod x270001_2 t276) != 0) = true := bne_iff_ne.mpr c31
          simp only [Option.some.injEq, Prod.mk.injEq] at H
          obtain ⟨rfl, rfl, rfl⟩ := H
          try go_wp2_with (first | ((with_reducible refine gC (f := 61) rfl ?_); refine goesL_ (some 55) rfl rfl Try.func61 kR rfl #[.slice A0 l0.length c0] rfl sQ ?_; (with_reducible refine (impl_twice.calls k2 _ _ l0 t276 _ ?side1 ?side2 A27.out).mono ?_); (case side1 => repeat (first | exact (Kd.C_below HR0.out HB.out) | (with_reducible refine cA ?_ _) | (with_reducible refine cN ?_ _) | (with_reducible refine cD ?_))); (case side2 => exact HC0.out); rintro e w59 ⟨rfl, hb⟩; refine ⟨_, rfl, ?_⟩; replace BK267 := bB BK267 hb; replace BK269 := bB BK269 hb; replace HB := tB HB hb; (try clear hb); (try clear hb2); (try clear hk); (try clear hi)))
          replace BK267 := aM (kD BK267.out); replace BK269 := aM (kD BK269.out); replace HB := aM (pD HB.out)
          refine start_ (n := 11) (S := fun w' => w'.cell? ⟨gb269, 0, none⟩ = some (.int .i64 x270000_2) ∧ w'.cell? ⟨gb269, 1, none⟩ = some (.int .i64 x270001_2)) (ds := []) (bA 11 0) kR rfl kR ⟨vZ0 BK269, vZ1 BK269⟩ (fun hHeld => ?_); refine with_tabW impl_PegOfParts.tab12 impl_PegOfParts.bits12 (fun HT_ HW_ => ?_)
          generalize w59.drew = w60 at BK267 BK269 HB hHeld ⊢
          refine pU 0 56 (bA 11 1) HT_ ?_; refine pU 2 58 (bA 11 5) HT_ ?_; refine pU 4 60 (bA 11 21) HT_ ?_; refine pU 6 62 (bA 11 85) HT_ ?_
          refine tU 1 57 (bA 11 87) HT_ HW_ hHeld ?_ (hy := Or.inl ⟨by rfl, by rintro w' ⟨s0, s1⟩; go_simp; with_reducible rfl⟩)
          refine pU 3 59 (bA 11 95) HT_ ?_
          refine tU 5 61 (bA 11 127) HT_ HW_ hHeld ?_ (hy := Or.inl ⟨by rfl, by rintro w' ⟨s0, s1⟩; go_simp; with_reducible rfl⟩)
          refine pU 7 63 (bA 11 255) HT_ ?_; refine pU 8 64 (bA 11 511) HT_ ?_
          refine oU 9 11 (bA 11 1023) HT_ (fun K hK => ?_)
          refine box_step ?hg (N := 11) ?hd (cs := #[.int .i64 0, .int .i64 0]) (t := 26) ?hr ?_; (case hd => rfl); (case hg => rfl); (case hr => first | (go_simp; done) | (go_simp; rfl))
          intro gb277 hg w61 hbox hb
          have BK277 := aM (hbox); have GW277 := gZ HB hg; have GE277 := gZ HB hg; have NB267_277 := nG BK267 hg; have NB277_267 := nH BK267 hg; have NB269_277 := nG BK269 hg; have NB277_269 := nH BK269 hg; replace BK267 := bB BK267 hb; replace BK269 := bB BK269 hb; replace HB := tB HB hb; clear hb hbox hg
          refine hK.out _ _ ⟨vZ0 BK269, vZ1 BK269⟩ (fun hHeld => ?_)
          clear hK K
          refine nU ?_
          refine one_ (i := 10) (N := none) (bA 11 2047) rfl rfl (one_of HT_.out kR) (by decide) (fun K hK => ?_)
          have hs62 : w61.cell? ⟨gb277, 0, none⟩ = some (.int .i64 0) := vZ0 BK277; have hfs62 := kF BK277.out 0; have hns62_0 := NB267_277.out; have hns62_1 := NB269_277.out; have hms62_0 := NB277_267.out; have hms62_1 := NB277_269.out; have hs63 : w61.cell? ⟨gb277, 1, none⟩ = some (.int .i64 0) := vZ1 BK277; have hfs63 := kF BK277.out 1; have hns63_0 := NB267_277.out; have hns63_1 := NB269_277.out; have hms63_0 := NB277_267.out; have hms63_1 := NB277_269.out
          refine skip_ (w1 := ?_) (by rfl) rfl ?_ ?_
          rotate_left
          ·go_simp
           rfl
          refine hK.out _ _ ⟨((cell_far (p := ⟨gb277, _, none⟩) NB269_277.out _).trans (((cell_far (p := ⟨gb277, _, none⟩) NB269_277.out _).trans (hHeld.1)))), ((cell_far (p := ⟨gb277, _, none⟩) NB269_277.out _).trans (((cell_far (p := ⟨gb277, _, none⟩) NB269_277.out _).trans (hHeld.2))))⟩ (fun hHeld => ?_)
          clear hK K
          refine done_ (done_of HT_.out kR) ?_
          have hnb64 := NB269_267.out; have hnc64 := NB267_269.out; have hnb65 := NB269_277.out; have hnc65 := NB277_269.out; have hcz66_0 := vZ0 BK269; have hcz66_1 := vZ1 BK269; have hfz66_0 := kF BK269.out 0; have hfz66_1 := kF BK269.out 1; have hnb67 := NB267_277.out; have hnc67 := NB277_267.out; have hcz68_0 := vZ0 BK267; have hcz68_1 := vZ1 BK267; have hfz68_0 := kF BK267.out 0; have hfz68_1 := kF BK267.out 1
          try go_wp2
          refine bodyPost_ret (results_ct rfl _ _ gb267 26 #[.int .i64 0, .int .i64 0] (0, 0) _ rfl (fQ BK267) Try.underlying26 rfl kR) rfl ?_
          exact ⟨wQ, bE⟩
        ·rw [if_neg c30] at H; have c30b0 : ((Int.tmod x270000_2 t276) == 0) = false := beq_eq_false_iff_ne.mpr c30; have c30b1 : ((Int.tmod x270000_2 t276) != 0) = true := bne_iff_ne.mpr c30
         simp only [Option.some.injEq, Prod.mk.injEq] at H
         obtain ⟨rfl, rfl, rfl⟩ := H
         try go_wp2_with (first | ((with_reducible refine gC (f := 61) rfl ?_); refine goesL_ (some 55) rfl rfl Try.func61 kR rfl #[.slice A0 l0.length c0] rfl sQ ?_; (with_reducible refine (impl_twice.calls k2 _ _ l0 t276 _ ?side1 ?side2 A27.out).mono ?_); (case side1 => repeat (first | exact (Kd.C_below HR0.out HB.out) | (with_reducible refine cA ?_ _) | (with_reducible refine cN ?_ _) | (with_reducible refine cD ?_))); (case side2 => exact HC0.out); rintro e w69 ⟨rfl, hb⟩; refine ⟨_, rfl, ?_⟩; replace BK267 := bB BK267 hb; replace BK269 := bB BK269 hb; replace HB := tB HB hb; (try clear hb); (try clear hb2); (try clear hk); (try clear hi)))
         replace BK267 := aM (kD BK267.out); replace BK269 := aM (kD BK269.out); replace HB := aM (pD HB.out)
         refine start_ (n := 11) (S := fun w' => w'.cell? ⟨gb269, 0, none⟩ = some (.int .i64 x270000_2) ∧ w'.cell? ⟨gb269, 1, none⟩ = some (.int .i64 x270001_2)) (ds := []) (bA 11 0) kR rfl kR ⟨vZ0 BK269, vZ1 BK269⟩ (fun hHeld => ?_); refine with_tabW impl_PegOfParts.tab12 impl_PegOfParts.bits12 (fun HT_ HW_ => ?_)
         generalize w69.drew = w70 at BK267 BK269 HB hHeld ⊢
         refine pU 0 56 (bA 11 1) HT_ ?_; refine pU 2 58 (bA 11 5) HT_ ?_; refine pU 4 60 (bA 11 21) HT_ ?_; refine pU 6 62 (bA 11 85) HT_ ?_
         refine tU 1 57 (bA 11 87) HT_ HW_ hHeld ?_ (hy := Or.inl ⟨by rfl, by rintro w' ⟨s0, s1⟩; go_simp; with_reducible rfl⟩)
         refine pU 3 59 (bA 11 95) HT_ ?_
         refine tU 5 61 (bA 11 127) HT_ HW_ hHeld ?_ (hy := Or.inl ⟨by rfl, by rintro w' ⟨s0, s1⟩; go_simp; with_reducible rfl⟩)
         refine pU 7 63 (bA 11 255) HT_ ?_; refine pU 8 64 (bA 11 511) HT_ ?_
         refine oU 9 11 (bA 11 1023) HT_ (fun K hK => ?_)
         refine box_step ?hg (N := 11) ?hd (cs := #[.int .i64 0, .int .i64 0]) (t := 26) ?hr ?_; (case hd => rfl); (case hg => rfl); (case hr => first | (go_simp; done) | (go_simp; rfl))
         intro gb277 hg w71 hbox hb
         have BK277 := aM (hbox); have GW277 := gZ HB hg; have GE277 := gZ HB hg; have NB267_277 := nG BK267 hg; have NB277_267 := nH BK267 hg; have NB269_277 := nG BK269 hg; have NB277_269 := nH BK269 hg; replace BK267 := bB BK267 hb; replace BK269 := bB BK269 hb; replace HB := tB HB hb; clear hb hbox hg
         refine hK.out _ _ ⟨vZ0 BK269, vZ1 BK269⟩ (fun hHeld => ?_)
         clear hK K
         refine nU ?_
         refine one_ (i := 10) (N := none) (bA 11 2047) rfl rfl (one_of HT_.out kR) (by decide) (fun K hK => ?_)
         have hs72 : w71.cell? ⟨gb277, 0, none⟩ = some (.int .i64 0) := vZ0 BK277; have hfs72 := kF BK277.out 0; have hns72_0 := NB267_277.out; have hns72_1 := NB269_277.out; have hms72_0 := NB277_267.out; have hms72_1 := NB277_269.out; have hs73 : w71.cell? ⟨gb277, 1, none⟩ = some (.int .i64 0) := vZ1 BK277; have hfs73 := kF BK277.out 1; have hns73_0 := NB267_277.out; have hns73_1 := NB269_277.out; have hms73_0 := NB277_267.out; have hms73_1 := NB277_269.out
         refine skip_ (w1 := ?_) (by rfl) rfl ?_ ?_
         rotate_left
         ·go_simp
          rfl
         refine hK.out _ _ ⟨((cell_far (p := ⟨gb277, _, none⟩) NB269_277.out _).trans (((cell_far (p := ⟨gb277, _, none⟩) NB269_277.out _).trans (hHeld.1)))), ((cell_far (p := ⟨gb277, _, none⟩) NB269_277.out _).trans (((cell_far (p := ⟨gb277, _, none⟩) NB269_277.out _).trans (hHeld.2))))⟩ (fun hHeld => ?_)
         clear hK K
         refine done_ (done_of HT_.out kR) ?_
         have hnb74 := NB269_267.out; have hnc74 := NB267_269.out; have hnb75 := NB269_277.out; have hnc75 := NB277_269.out; have hcz76_0 := vZ0 BK269; have hcz76_1 := vZ1 BK269; have hfz76_0 := kF BK269.out 0; have hfz76_1 := kF BK269.out 1; have hnb77 := NB267_277.out; have hnc77 := NB277_267.out; have hcz78_0 := vZ0 BK267; have hcz78_1 := vZ1 BK267; have hfz78_0 := kF BK267.out 0; have hfz78_1 := kF BK267.out 1
         try go_wp2
         refine bodyPost_ret (results_ct rfl _ _ gb267 26 #[.int .i64 0, .int .i64 0] (0, 0) _ rfl (fQ BK267) Try.underlying26 rfl kR) rfl ?_
         exact ⟨wQ, bE⟩
       ·rw [if_neg c29] at H; have c29b0 : (x7_2 == t276) = false := beq_eq_false_iff_ne.mpr c29; have c29b1 : (x7_2 != t276) = true := bne_iff_ne.mpr c29
        simp only [Option.some.injEq, Prod.mk.injEq] at H
        obtain ⟨rfl, rfl, rfl⟩ := H
        try go_wp2_with (first | ((with_reducible refine gC (f := 61) rfl ?_); refine goesL_ (some 55) rfl rfl Try.func61 kR rfl #[.slice A0 l0.length c0] rfl sQ ?_; (with_reducible refine (impl_twice.calls k2 _ _ l0 t276 _ ?side1 ?side2 A27.out).mono ?_); (case side1 => repeat (first | exact (Kd.C_below HR0.out HB.out) | (with_reducible refine cA ?_ _) | (with_reducible refine cN ?_ _) | (with_reducible refine cD ?_))); (case side2 => exact HC0.out); rintro e w79 ⟨rfl, hb⟩; refine ⟨_, rfl, ?_⟩; replace BK267 := bB BK267 hb; replace BK269 := bB BK269 hb; replace HB := tB HB hb; (try clear hb); (try clear hb2); (try clear hk); (try clear hi)))
        replace BK267 := aM (kD BK267.out); replace BK269 := aM (kD BK269.out); replace HB := aM (pD HB.out)
        refine start_ (n := 11) (S := fun w' => w'.cell? ⟨gb269, 0, none⟩ = some (.int .i64 x270000_2) ∧ w'.cell? ⟨gb269, 1, none⟩ = some (.int .i64 x270001_2)) (ds := []) (bA 11 0) kR rfl kR ⟨vZ0 BK269, vZ1 BK269⟩ (fun hHeld => ?_); refine with_tabW impl_PegOfParts.tab12 impl_PegOfParts.bits12 (fun HT_ HW_ => ?_)
        generalize w79.drew = w80 at BK267 BK269 HB hHeld ⊢
        refine pU 0 56 (bA 11 1) HT_ ?_; refine pU 2 58 (bA 11 5) HT_ ?_; refine pU 4 60 (bA 11 21) HT_ ?_; refine pU 6 62 (bA 11 85) HT_ ?_
        refine tU 1 57 (bA 11 87) HT_ HW_ hHeld ?_ (hy := Or.inl ⟨by rfl, by rintro w' ⟨s0, s1⟩; go_simp; with_reducible rfl⟩)
        refine pU 3 59 (bA 11 95) HT_ ?_
        refine tU 5 61 (bA 11 127) HT_ HW_ hHeld ?_ (hy := Or.inl ⟨by rfl, by rintro w' ⟨s0, s1⟩; go_simp; with_reducible rfl⟩)
        refine pU 7 63 (bA 11 255) HT_ ?_; refine pU 8 64 (bA 11 511) HT_ ?_
        refine oU 9 11 (bA 11 1023) HT_ (fun K hK => ?_)
        refine box_step ?hg (N := 11) ?hd (cs := #[.int .i64 0, .int .i64 0]) (t := 26) ?hr ?_; (case hd => rfl); (case hg => rfl); (case hr => first | (go_simp; done) | (go_simp; rfl))
        intro gb277 hg w81 hbox hb
        have BK277 := aM (hbox); have GW277 := gZ HB hg; have GE277 := gZ HB hg; have NB267_277 := nG BK267 hg; have NB277_267 := nH BK267 hg; have NB269_277 := nG BK269 hg; have NB277_269 := nH BK269 hg; replace BK267 := bB BK267 hb; replace BK269 := bB BK269 hb; replace HB := tB HB hb; clear hb hbox hg
        refine hK.out _ _ ⟨vZ0 BK269, vZ1 BK269⟩ (fun hHeld => ?_)
        clear hK K
        refine nU ?_
        refine one_ (i := 10) (N := none) (bA 11 2047) rfl rfl (one_of HT_.out kR) (by decide) (fun K hK => ?_)
        have hs82 : w81.cell? ⟨gb277, 0, none⟩ = some (.int .i64 0) := vZ0 BK277; have hfs82 := kF BK277.out 0; have hns82_0 := NB267_277.out; have hns82_1 := NB269_277.out; have hms82_0 := NB277_267.out; have hms82_1 := NB277_269.out; have hs83 : w81.cell? ⟨gb277, 1, none⟩ = some (.int .i64 0) := vZ1 BK277; have hfs83 := kF BK277.out 1; have hns83_0 := NB267_277.out; have hns83_1 := NB269_277.out; have hms83_0 := NB277_267.out; have hms83_1 := NB277_269.out
        refine skip_ (w1 := ?_) (by rfl) rfl ?_ ?_
        rotate_left
        ·go_simp
         rfl
        refine hK.out _ _ ⟨((cell_far (p := ⟨gb277, _, none⟩) NB269_277.out _).trans (((cell_far (p := ⟨gb277, _, none⟩) NB269_277.out _).trans (hHeld.1)))), ((cell_far (p := ⟨gb277, _, none⟩) NB269_277.out _).trans (((cell_far (p := ⟨gb277, _, none⟩) NB269_277.out _).trans (hHeld.2))))⟩ (fun hHeld => ?_)
        clear hK K
        refine done_ (done_of HT_.out kR) ?_
        have hnb84 := NB267_269.out; have hnc84 := NB269_267.out; have hnb85 := NB267_277.out; have hnc85 := NB277_267.out; have hcz86_0 := vZ0 BK267; have hcz86_1 := vZ1 BK267; have hfz86_0 := kF BK267.out 0; have hfz86_1 := kF BK267.out 1
        try go_wp2
        refine bodyPost_ret (results_ct rfl _ _ gb267 26 #[.int .i64 0, .int .i64 0] (0, 0) _ rfl (fQ BK267) Try.underlying26 rfl kR) rfl ?_
        exact ⟨wQ, bE⟩
end Go.Proofs.Ytklhakfmegbobaa.X
