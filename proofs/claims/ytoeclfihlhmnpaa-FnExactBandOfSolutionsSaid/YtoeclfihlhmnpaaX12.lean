-- thin
-- short
-- compact
import Derived.Test.YtoeclfihlhmnpaaXA
import Derived.Test.YtoeclfihlhmnpaaX0
import Derived.Test.YtoeclfihlhmnpaaX11
namespace Go.Proofs.Ytoeclfihlhmnpaa.X
open Go.RowKit Go.Proofs.Ytoeclfihlhmnpaa.XW Go.Proofs.YtoeclfihlhmnpaaW.PrintWords Go.Proofs.YtoeclfihlhmnpaaW.PrintLast Go.Proofs.YtoeclfihlhmnpaaW.PrintMore
attribute [local go_sem] max2_int min2_int max_two min_two max_three min_three max_four min_four   -- for this text's walks alone
set_option linter.unusedVariables false
set_option linter.unusedSimpArgs false

def impl_comparePegs.f (k : Nat) (a0_0 : Int) (a0_1 : Int) (a1_0 : Int) (a1_1 : Int) : Option (Int) := (cmp_Compare_int.f a0_0 a1_0).bind fun t340 => ((cmp_Compare_int.f a0_1 a1_1).bind fun t341 => ((cmp_Or_int.f k (([t340, t341] : List Int))).bind fun t345 => (some t345)))
theorem impl_comparePegs.mono : ∀ a0 a1 a2 a3 k, LeO (impl_comparePegs.f k a0 a1 a2 a3) (impl_comparePegs.f (k + 1) a0 a1 a2 a3) := by
 intro a0 a1 a2 a3 k
 unfold impl_comparePegs.f
 repeat' first | (with_reducible exact cmp_Or_int.mono _ _) | (with_reducible exact LeO.refl _) | (with_reducible exact LeO.none _) | (with_reducible refine LeO.ite ?_ ?_) | (with_reducible refine LeO.bind ?_ (fun _ => ?_)) | exact cmp_Or_int.mono _ _ | exact LeO.none _ | refine LeO.ite ?_ ?_ | refine LeO.bind ?_ (fun _ => ?_)
def impl_comparePegs.T1 : Bool × List (List Nat × List Nat) := (true, [([], []), ([0], [0]), ([], []), ([2], [2]), ([1, 3], [1, 3]), ([], []), ([5], [5]), ([], []), ([7], [7]), ([6, 8, 4], [6, 8]), ([4, 9], [4, 9]), ([10, 9], [10]), ([11, 11, 0, 1, 2, 3, 4, 5, 6, 7, 8, 9, 10, 11], [11])])
def impl_comparePegs.B1 : List Nat := [0, 1, 0, 4, 15, 0, 32, 0, 128, 511, 1023, 2047, 4095]
theorem impl_comparePegs.tab1 : rtab .any (opsOf Try.f108 1) = impl_comparePegs.T1 := by kernel_rfl
theorem impl_comparePegs.bits1 : waitsOk impl_comparePegs.T1.2 impl_comparePegs.B1 = true := by kernel_rfl
set_option maxHeartbeats 8000000 in
set_option maxRecDepth 100000 in
theorem impl_comparePegs.calls (k : Nat) (a0_0 : Int) (a0_1 : Int) (a1_0 : Int) (a1_1 : Int) (r : Int) (w : World) (h : impl_comparePegs.f k a0_0 a0_1 a1_0 a1_1 = some r) :
  Calls Try.prog 108 #[.agg #[.int .i64 a0_0, .int .i64 a0_1], .agg #[.int .i64 a1_0, .int .i64 a1_1]] w fun e w' => e = .returned (.int .i64 r) ∧ Below w.heap.size w w' := by
 have hu41 := Try.underlying41; have HB := aM (Below.refl w.heap.size w)
 unfold impl_comparePegs.f at h; have H := h; clear h
 replace H := bS H; obtain ⟨t340, A3, H⟩ := H; replace H := bS H; obtain ⟨t341, A4, H⟩ := H; obtain ⟨y342, hy342⟩ : ∃ y_ : List Int, y_ = (([t340, t341] : List Int)) := ⟨_, rfl⟩; rw [← hy342] at H; have Ny342 := aM hy342; clear hy342; replace H := bS H; obtain ⟨t345, A5, H⟩ := H; obtain rfl := Option.some.inj H
 go_enter Try.func108, Try.ntmps108
 try go_wp2_with (first | ((with_reducible refine gate_dst (N := 2) rfl ?_); refine bV 2 (cs := #[.int .i64 a0_0, .int .i64 a0_1]) (t := 41) rfl rfl (by first | (go_simp; done) | (go_simp; rfl)) ?_; intro gb338 hg w6 hbox hb; have BK338 := hbox; have GW338 := gZ HB hg; have GE338 := gZ HB hg; replace HB := tB HB hb; clear hb hbox hg) | ((with_reducible refine gate_dst (N := 3) rfl ?_); refine bV 3 (cs := #[.int .i64 a1_0, .int .i64 a1_1]) (t := 41) rfl rfl (by first | (go_simp; done) | (go_simp; rfl)) ?_; intro gb339 hg w7 hbox hb; have BK339 := hbox; have GW339 := gZ HB hg; have GE339 := gZ HB hg; have NB338_339 := nG BK338 hg; have NB339_338 := nH BK338 hg; replace BK338 := bB BK338 hb; replace HB := tB HB hb; clear hb hbox hg))
 replace BK338 := aM (kD BK338.out); replace BK339 := aM (kD BK339.out); replace HB := aM (pD HB.out)
 refine start_ (n := 13) (S := fun w' => w'.cell? ⟨gb338, 0, none⟩ = some (.int .i64 a0_0) ∧ w'.cell? ⟨gb338, 1, none⟩ = some (.int .i64 a0_1) ∧ w'.cell? ⟨gb339, 0, none⟩ = some (.int .i64 a1_0) ∧ w'.cell? ⟨gb339, 1, none⟩ = some (.int .i64 a1_1)) (ds := []) (bA 13 0) kR rfl kR ⟨vZ0 BK338, vZ1 BK338, vZ0 BK339, vZ1 BK339⟩ (fun hHeld => ?_); refine with_tabW impl_comparePegs.tab1 impl_comparePegs.bits1 (fun HT_ HW_ => ?_)
 generalize w7.drew = w8 at BK338 BK339 HB hHeld ⊢
 refine pU 0 5 (bA 13 1) HT_ ?_; refine pU 2 7 (bA 13 5) HT_ ?_; refine pU 5 10 (bA 13 37) HT_ ?_; refine pU 7 12 (bA 13 165) HT_ ?_
 refine tU 1 6 (bA 13 167) HT_ HW_ hHeld ?_ (hy := Or.inl ⟨by rfl, by rintro w' ⟨s0, s1, s2, s3⟩; go_simp; with_reducible rfl⟩)
 refine tU 3 8 (bA 13 175) HT_ HW_ hHeld ?_ (hy := Or.inl ⟨by rfl, by rintro w' ⟨s0, s1, s2, s3⟩; go_simp; with_reducible rfl⟩)
 refine tU 6 11 (bA 13 239) HT_ HW_ hHeld ?_ (hy := Or.inl ⟨by rfl, by rintro w' ⟨s0, s1, s2, s3⟩; go_simp; with_reducible rfl⟩)
 refine tU 8 13 (bA 13 495) HT_ HW_ hHeld ?_ (hy := Or.inl ⟨by rfl, by rintro w' ⟨s0, s1, s2, s3⟩; go_simp; with_reducible rfl⟩)
 refine oU 4 9 (bA 13 511) HT_ (fun K hK => ?_)
 refine goes_ Try.func118 kR rfl #[.int .i64 a0_0, .int .i64 a1_0] (by rfl) rfl rfl sQ ?_
 with_reducible refine (cmp_Compare_int.calls a0_0 a1_0 t340 _ A3.out).mono ?_
 rintro e w' ⟨rfl, ⟨nd, rfl⟩⟩; refine ⟨_, rfl, ?_⟩
 refine hK.out _ _ ⟨vZ0 BK338, vZ1 BK338, vZ0 BK339, vZ1 BK339⟩ (fun hHeld => ?_)
 clear hK K
 refine nU ?_
 refine oU 9 14 (bA 13 1023) HT_ (fun K hK => ?_)
 refine goes_ Try.func118 kR rfl #[.int .i64 a0_1, .int .i64 a1_1] (by rfl) rfl rfl sQ ?_
 with_reducible refine (cmp_Compare_int.calls a0_1 a1_1 t341 _ A4.out).mono ?_
 rintro e w' ⟨rfl, ⟨nd, rfl⟩⟩; refine ⟨_, rfl, ?_⟩
 refine hK.out _ _ ⟨vZ0 BK338, vZ1 BK338, vZ0 BK339, vZ1 BK339⟩ (fun hHeld => ?_)
 clear hK K
 refine nU ?_
 refine oU 10 15 (bA 13 2047) HT_ (fun K hK => ?_)
 refine Kd.R_lit_step (Kd.int .i64) _ 3 ?hg (N := 15) ?hd (xs := ([t340, t341] : List Int)) (inner := [.int .i64 t340, .int .i64 t341]) (ok := fun _ => True) (okp := fun _ => True) ?hr ?hp (fun _ hk => hk) trivial (Below.refl _ _) (Nat.le_refl _) (by simp) ?_; (case hd => rfl); (case hg => rfl); (case hr => first | (go_simp; done) | (go_simp; rfl)); (case hp => exact (Reps.one (show Kd.M (Kd.int .i64) _ _ _ t340 [.int .i64 t340] from rfl) (Reps.one (show Kd.M (Kd.int .i64) _ _ _ t341 [.int .i64 t341] from rfl) (Reps.none _ _))))
 intro v343 w9 ho10 hb hg_ hnew_
 clear hg_ hnew_
 (first | rw [← Ny342.out] at ho10 | (simp only [Int.reduceToNat] at ho10; rw [← Ny342.out] at ho10))
 have HO344 := aM (Kd.R_lower ho10 (pZ bE)); replace BK338 := bB BK338 hb; replace BK339 := bB BK339 hb; replace HB := tB HB hb; clear hb ho10; obtain ⟨Ao11, co11, eo11⟩ := Kd.R_slice HO344.out
 (first | subst eo11 | (injection eo11 with f1_ f2_ f3_; have f4_ := f1_.symm; have f5_ := f3_.symm; clear f1_ f2_ f3_; subst f4_; subst f5_))
 refine hK.out _ _ ⟨vZ0 BK338, vZ1 BK338, vZ0 BK339, vZ1 BK339⟩ (fun hHeld => ?_)
 clear hK K
 refine nU ?_
 refine oU 11 16 (bA 13 4095) HT_ (fun K hK => ?_)
 refine goes_ Try.func117 kR rfl #[.slice Ao11 y342.length co11] (by rfl) rfl rfl sQ ?_
 with_reducible refine (cmp_Or_int.calls k _ _ y342 t345 _ ?side1 ?side2 A5.out).mono ?_
 (case side1 => repeat (first | exact (rR HO344.out).2.2 | (with_reducible refine cA ?_ _) | (with_reducible refine cN ?_ _) | (with_reducible refine cD ?_)))
 (case side2 => exact (rR HO344.out).2.1)
 rintro e w' ⟨rfl, ⟨nd, rfl⟩⟩; refine ⟨_, rfl, ?_⟩
 refine hK.out _ _ ⟨vZ0 BK338, vZ1 BK338, vZ0 BK339, vZ1 BK339⟩ (fun hHeld => ?_)
 clear hK K
 refine nU ?_
 refine pU 12 4 (bA 13 8191) HT_ ?_
 refine done_ (done_of HT_.out kR) ?_
 try go_wp2
 go_ret
 exact ⟨wQ, bE⟩

end Go.Proofs.Ytoeclfihlhmnpaa.X
