-- thin
-- short
-- compact
import Derived.Test.YtklhakfmegbobaaXA
import Derived.Test.YtklhakfmegbobaaX0
namespace Go.Proofs.Ytklhakfmegbobaa.X
open Go.RowKit Go.Proofs.Ytklhakfmegbobaa.XW Go.Proofs.YtklhakfmegbobaaW.PrintWords Go.Proofs.YtklhakfmegbobaaW.PrintLast Go.Proofs.YtklhakfmegbobaaW.PrintMore
attribute [local go_sem] max2_int min2_int max_two min_two max_three min_three max_four min_four   -- for this text's walks alone
set_option linter.unusedVariables false
set_option linter.unusedSimpArgs false

def impl_box.l0 : Nat → List (S_impl_Peg) → Int → Int → Int → Int → Int → Int → Option (Int × Int × Int × Int)
 | 0, _, _, _, _, _, _, _ => none
 | k + 1, x14, x15, x16, x600000, x600001, x601000, x601001 => if x16 < x15 then (if 0 ≤ x16 then (if x16 < (x14.length : Int) then (impl_box.l0 k x14 x15 (wrap64 (x16 + 1)) (mn x600000 ((rd_impl_Peg x14 x16).f0)) (mn x600001 ((rd_impl_Peg x14 x16).f1)) (mx x601000 ((rd_impl_Peg x14 x16).f0)) (mx x601001 ((rd_impl_Peg x14 x16).f1))) else (none)) else (none)) else (some (x600000, x600001, x601000, x601001))
def impl_box.f (k : Nat) (l0 : List (S_impl_Peg)) : Option (Int × Int × Int × Int) := if 0 < (l0.length : Int) then (impl_box.l0 k l0 (l0.length : Int) 0 ((rd_impl_Peg l0 0).f0) ((rd_impl_Peg l0 0).f1) ((rd_impl_Peg l0 0).f0) ((rd_impl_Peg l0 0).f1)) else (none)
theorem impl_box.mono_l : ∀ k, (∀ y0 y1 y2 y3 y4 y5 y6, LeO (impl_box.l0 k y0 y1 y2 y3 y4 y5 y6) (impl_box.l0 (k + 1) y0 y1 y2 y3 y4 y5 y6))
 | 0 => fun _ _ _ _ _ _ _ r h => by simp [impl_box.l0] at h
 | k + 1 => by
  have ih0 := impl_box.mono_l k
  ·intro y0 y1 y2 y3 y4 y5 y6
   unfold impl_box.l0
   repeat' first
   | (with_reducible exact ih0 _ _ _ _ _ _ _)
   | (with_reducible exact LeO.refl _)
   | (with_reducible exact LeO.none _)
   | (with_reducible refine LeO.ite ?_ ?_)
   | (with_reducible refine LeO.bind ?_ (fun _ => ?_))
   | exact ih0 _ _ _ _ _ _ _
   | exact LeO.none _
   | refine LeO.ite ?_ ?_
   | refine LeO.bind ?_ (fun _ => ?_)
theorem impl_box.mono : ∀ a0 k, LeO (impl_box.f k a0) (impl_box.f (k + 1) a0) := by
 intro a0 k
 have ih0 := impl_box.mono_l k
 unfold impl_box.f
 repeat' first | (with_reducible exact ih0 _ _ _ _ _ _ _) | (with_reducible exact LeO.refl _) | (with_reducible exact LeO.none _) | (with_reducible refine LeO.ite ?_ ?_) | (with_reducible refine LeO.bind ?_ (fun _ => ?_)) | exact ih0 _ _ _ _ _ _ _ | exact LeO.none _ | refine LeO.ite ?_ ?_ | refine LeO.bind ?_ (fun _ => ?_)
def impl_box.T1 : Bool × List (List Nat × List Nat) := (true, [([], []), ([0], [0]), ([1], [1]), ([], []), ([3], [3]), ([4], [4]), ([], []), ([], []), ([6, 2, 0, 1, 2, 6, 7], [2, 6]), ([7, 5, 8, 0, 1, 2, 3, 4, 5, 6, 7, 8], [5, 7])])
def impl_box.B1 : List Nat := [0, 1, 3, 0, 8, 24, 0, 0, 199, 511]
theorem impl_box.tab1 : rtab .any (opsOf Try.f93 1) = impl_box.T1 := by kernel_rfl
theorem impl_box.bits1 : waitsOk impl_box.T1.2 impl_box.B1 = true := by kernel_rfl
set_option maxHeartbeats 8000000 in
set_option maxRecDepth 100000 in
theorem impl_box.calls (k : Nat) (A0 : Option Addr) (c0 : Nat) (l0 : List (S_impl_Peg)) (r1 : Int) (r2 : Int) (r3 : Int) (r4 : Int) (w : World) (hr0 : Kd.C kd_impl_Peg w A0 l0.length l0) (hc0 : l0.length ≤ c0) (h : impl_box.f k l0 = some (r1, r2, r3, r4)) :
  Calls Try.prog 93 #[.slice A0 l0.length c0] w fun e w' => e = .returned (.tuple #[.agg #[.int .i64 r1, .int .i64 r2], .agg #[.int .i64 r3, .int .i64 r4]]) ∧ Below w.heap.size w w' := by
 have hu26 := Try.underlying26; have HR0 := aM hr0; have HC0 := aM hc0; clear hr0 hc0; have HB := aM (Below.refl w.heap.size w)
 unfold impl_box.f at h; have H := h; clear h
 replace H := iN H; obtain ⟨c2, H⟩ := H; have c2b0 := dE c2; have c2b1 : decide (0 < l0.length) = true := dE (by omega)
 clear c2; have H' := aM H; clear H
 go_enter Try.func93, Try.ntmps93
 try go_wp2_with (first | ((with_reducible refine gate_dst (N := 2) rfl ?_); refine bV 2 (cs := #[.int .i64 0, .int .i64 0]) (t := 26) rfl rfl (by first | (go_simp; done) | (go_simp; rfl)) ?_; intro gb595 hg w3 hbox hb; have BK595 := hbox; have GW595 := gZ HB hg; have GE595 := gZ HB hg; replace HB := tB HB hb; clear hb hbox hg) | ((with_reducible refine gate_dst (N := 3) rfl ?_); refine bV 3 (cs := #[.int .i64 0, .int .i64 0]) (t := 26) rfl rfl (by first | (go_simp; done) | (go_simp; rfl)) ?_; intro gb596 hg w4 hbox hb; have BK596 := hbox; have GW596 := gZ HB hg; have GE596 := gZ HB hg; have NB595_596 := nG BK595 hg; have NB596_595 := nH BK595 hg; replace BK595 := bB BK595 hb; replace HB := tB HB hb; clear hb hbox hg))
 replace BK595 := aM (kD BK595.out); replace BK596 := aM (kD BK596.out); replace HB := aM (pD HB.out); have p597 : 0 ≤ (0 : Int) := (by omega)
 have q597 : 0 < (l0.length : Int) := dT aQ; obtain ⟨ad597, e597, hx597_0, hx597_1⟩ := at_impl_Peg HR0.out 0 p597 q597; have hw597_1 := hx597_1
 (try rw [show ((0 : Int)).toNat = 0 from rfl] at hw597_1)
 (try rw [show 0 * 2 = 0 from rfl] at hw597_1)
 (try rw [Addr.add_zero'] at hw597_1)
 have hw597_0 := hx597_0
 (try rw [show ((0 : Int)).toNat = 0 from rfl] at hw597_0)
 (try rw [show 0 * 2 = 0 from rfl] at hw597_0)
 (try rw [Addr.add_zero'] at hw597_0)
 cases e597
 have qi597 : (0 < l0.length) = True := eq_true (by omega)
 (try rw [show ((0 : Int)).toNat = 0 from rfl] at hx597_0)
 (try rw [show 0 * 2 = 0 from rfl] at hx597_0)
 (try rw [Addr.add_zero'] at hx597_0)
 (try rw [show ((0 : Int)).toNat = 0 from rfl] at hx597_1)
 (try rw [show 0 * 2 = 0 from rfl] at hx597_1)
 (try rw [Addr.add_zero'] at hx597_1)
 replace hx597_0 := hC HB hx597_0; replace hx597_1 := hC HB hx597_1; replace p597 := eq_true p597; replace q597 := eq_true q597; have p598 : 0 ≤ (0 : Int) := (by omega)
 have q598 : 0 < (l0.length : Int) := dT aQ; obtain ⟨ad598, e598, hx598_0, hx598_1⟩ := at_impl_Peg HR0.out 0 p598 q598; have hw598_1 := hx598_1
 (try rw [show ((0 : Int)).toNat = 0 from rfl] at hw598_1)
 (try rw [show 0 * 2 = 0 from rfl] at hw598_1)
 (try rw [Addr.add_zero'] at hw598_1)
 have hw598_0 := hx598_0
 (try rw [show ((0 : Int)).toNat = 0 from rfl] at hw598_0)
 (try rw [show 0 * 2 = 0 from rfl] at hw598_0)
 (try rw [Addr.add_zero'] at hw598_0)
 obtain rfl : ad597 = ad598 := (by injection e598)
 have qi598 : (0 < l0.length) = True := eq_true (by omega)
 (try rw [show ((0 : Int)).toNat = 0 from rfl] at hx598_0)
 (try rw [show 0 * 2 = 0 from rfl] at hx598_0)
 (try rw [Addr.add_zero'] at hx598_0)
 (try rw [show ((0 : Int)).toNat = 0 from rfl] at hx598_1)
 (try rw [show 0 * 2 = 0 from rfl] at hx598_1)
 (try rw [Addr.add_zero'] at hx598_1)
 replace hx598_0 := hC HB hx598_0; replace hx598_1 := hC HB hx598_1; replace p598 := eq_true p598; replace q598 := eq_true q598
 refine start_ (n := 10) (S := fun w' => w'.cell? ad597 = some (.int .i64 ((rd_impl_Peg l0 0).f0)) ∧ w'.cell? ⟨ad597.block, ad597.off + 1, none⟩ = some (.int .i64 ((rd_impl_Peg l0 0).f1)) ∧ w'.cell? ad597 = some (.int .i64 ((rd_impl_Peg l0 0).f0)) ∧ w'.cell? ⟨ad597.block, ad597.off + 1, none⟩ = some (.int .i64 ((rd_impl_Peg l0 0).f1))) (ds := []) (bA 10 0) kR rfl kR ⟨(hC HB hw597_0 :), (hC HB hw597_1 :), (hC HB hw598_0 :), (hC HB hw598_1 :)⟩ (fun hHeld => ?_); refine with_tabW impl_box.tab1 impl_box.bits1 (fun HT_ HW_ => ?_)
 generalize w4.drew = w5 at BK595 BK596 HB hx597_0 hx597_1 hx598_0 hx598_1 hHeld ⊢
 refine pU 0 8 (bA 10 1) HT_ ?_; refine pU 1 9 (bA 10 3) HT_ ?_; refine pU 3 11 (bA 10 11) HT_ ?_; refine pU 4 12 (bA 10 27) HT_ ?_
 refine tU 2 10 (bA 10 31) HT_ HW_ hHeld ?_ (hy := Or.inl ⟨by rfl, by rintro w' ⟨s0, s1, s2, s3⟩; go_simp; with_reducible rfl⟩)
 refine tU 5 13 (bA 10 63) HT_ HW_ hHeld ?_ (hy := Or.inl ⟨by rfl, by rintro w' ⟨s0, s1, s2, s3⟩; go_simp; with_reducible rfl⟩)
 refine join_ (σ := Nat × Nat) 2 (bA 10 255) (fun s_ => [(4, .pointer (some ⟨s_.1, 0, none⟩)), (5, .pointer (some ⟨s_.2, 0, none⟩))]) (fun s_ w' => (w'.cell? ad597 = some (.int .i64 ((rd_impl_Peg l0 0).f0)) ∧ w'.cell? ⟨ad597.block, ad597.off + 1, none⟩ = some (.int .i64 ((rd_impl_Peg l0 0).f1)) ∧ w'.cell? ad597 = some (.int .i64 ((rd_impl_Peg l0 0).f0)) ∧ w'.cell? ⟨ad597.block, ad597.off + 1, none⟩ = some (.int .i64 ((rd_impl_Peg l0 0).f1))) ∧ (w'.heap[gb595]? = some (.cells #[.int .i64 0, .int .i64 0] 26 (0, 0))) ∧ (w'.heap[gb596]? = some (.cells #[.int .i64 0, .int .i64 0] 26 (0, 0))) ∧ (w'.heap[s_.1]? = some (.cells #[.int .i64 0, .int .i64 0] 26 (0, 0))) ∧ (w'.heap[s_.2]? = some (.cells #[.int .i64 0, .int .i64 0] 26 (0, 0))) ∧ (w.heap.size ≤ s_.1) ∧ (w.heap.size ≤ s_.1) ∧ (gb595 ≠ s_.1) ∧ (s_.1 ≠ gb595) ∧ (gb596 ≠ s_.1) ∧ (s_.1 ≠ gb596) ∧ (s_.2 ≠ s_.1) ∧ (s_.1 ≠ s_.2) ∧ (w.heap.size ≤ s_.2) ∧ (w.heap.size ≤ s_.2) ∧ (gb595 ≠ s_.2) ∧ (s_.2 ≠ gb595) ∧ (gb596 ≠ s_.2) ∧ (s_.2 ≠ gb596) ∧ (Below w.heap.size w w')) ?_ ?_
 rotate_left
 ·intro hCont
  refine two_ (i := 6) (j := 7) (Ni := some 4) (Nj := some 5) (bA 10 127) (bA 10 191) rfl rfl rfl rfl (two_of HT_.out kR) (by decide) (by decide) (fun K hK => ?_) (fun K hK => ?_)
  ·skip
   refine box_step ?hg (N := 4) ?hd (cs := #[.int .i64 0, .int .i64 0]) (t := 26) ?hr ?_; (case hd => rfl); (case hg => rfl); (case hr => first | (go_simp; done) | (go_simp; rfl))
   intro gb599 hg w6 hbox hb
   have BK599 := aM (hbox); have GW599 := gZ HB hg; have GE599 := gZ HB hg; have NB595_599 := nG BK595 hg; have NB599_595 := nH BK595 hg; have NB596_599 := nG BK596 hg; have NB599_596 := nH BK596 hg; replace BK595 := bB BK595 hb; replace BK596 := bB BK596 hb; replace HB := tB HB hb; clear hb hbox hg
   refine hK.out _ _ ⟨(hC HB hw597_0 :), (hC HB hw597_1 :), (hC HB hw598_0 :), (hC HB hw598_1 :)⟩ (fun hHeld => ?_)
   clear hK K
   refine nU ?_
   refine oU 7 5 (bA 10 255) HT_ (fun K hK => ?_)
   refine box_step ?hg (N := 5) ?hd (cs := #[.int .i64 0, .int .i64 0]) (t := 26) ?hr ?_; (case hd => rfl); (case hg => rfl); (case hr => first | (go_simp; done) | (go_simp; rfl))
   intro gb600 hg w7 hbox hb
   have BK600 := aM (hbox); have GW600 := gZ HB hg; have GE600 := gZ HB hg; have NB595_600 := nG BK595 hg; have NB600_595 := nH BK595 hg; have NB596_600 := nG BK596 hg; have NB600_596 := nH BK596 hg; have NB599_600 := nG BK599 hg; have NB600_599 := nH BK599 hg; replace BK595 := bB BK595 hb; replace BK596 := bB BK596 hb; replace BK599 := bB BK599 hb; replace HB := tB HB hb; clear hb hbox hg
   refine hK.out _ _ ⟨(hC HB hw597_0 :), (hC HB hw597_1 :), (hC HB hw598_0 :), (hC HB hw598_1 :)⟩ (fun hHeld => ?_)
   clear hK K
   refine nU ?_
   exact norm_ (by simp only [putAll, Act.put, sI, sZ, sS]) (hCont (gb599, gb600) _ ⟨hHeld, (gQ BK595), (gQ BK596), (gQ BK599), (gQ BK600), GW599.out, GE599.out, NB595_599.out, NB599_595.out, NB596_599.out, NB599_596.out, NB600_599.out, NB599_600.out, GW600.out, GE600.out, NB595_600.out, NB600_595.out, NB596_600.out, NB600_596.out, bE⟩)
  ·skip
   refine box_step ?hg (N := 5) ?hd (cs := #[.int .i64 0, .int .i64 0]) (t := 26) ?hr ?_; (case hd => rfl); (case hg => rfl); (case hr => first | (go_simp; done) | (go_simp; rfl))
   intro gb600 hg w6 hbox hb
   have BK600 := aM (hbox); have GW600 := gZ HB hg; have GE600 := gZ HB hg; have NB595_600 := nG BK595 hg; have NB600_595 := nH BK595 hg; have NB596_600 := nG BK596 hg; have NB600_596 := nH BK596 hg; replace BK595 := bB BK595 hb; replace BK596 := bB BK596 hb; replace HB := tB HB hb; clear hb hbox hg
   refine hK.out _ _ ⟨(hC HB hw597_0 :), (hC HB hw597_1 :), (hC HB hw598_0 :), (hC HB hw598_1 :)⟩ (fun hHeld => ?_)
   clear hK K
   refine nU ?_
   refine oU 6 4 (bA 10 255) HT_ (fun K hK => ?_)
   refine box_step ?hg (N := 4) ?hd (cs := #[.int .i64 0, .int .i64 0]) (t := 26) ?hr ?_; (case hd => rfl); (case hg => rfl); (case hr => first | (go_simp; done) | (go_simp; rfl))
   intro gb599 hg w7 hbox hb
   have BK599 := aM (hbox); have GW599 := gZ HB hg; have GE599 := gZ HB hg; have NB595_599 := nG BK595 hg; have NB599_595 := nH BK595 hg; have NB596_599 := nG BK596 hg; have NB599_596 := nH BK596 hg; have NB600_599 := nG BK600 hg; have NB599_600 := nH BK600 hg; replace BK595 := bB BK595 hb; replace BK596 := bB BK596 hb; replace BK600 := bB BK600 hb; replace HB := tB HB hb; clear hb hbox hg
   refine hK.out _ _ ⟨(hC HB hw597_0 :), (hC HB hw597_1 :), (hC HB hw598_0 :), (hC HB hw598_1 :)⟩ (fun hHeld => ?_)
   clear hK K
   refine nU ?_
   exact norm_ (by simp only [putAll, Act.put, sI, sZ, sS]) (hCont (gb599, gb600) _ ⟨hHeld, (gQ BK595), (gQ BK596), (gQ BK599), (gQ BK600), GW599.out, GE599.out, NB595_599.out, NB599_595.out, NB596_599.out, NB599_596.out, NB600_599.out, NB599_600.out, GW600.out, GE600.out, NB595_600.out, NB600_595.out, NB596_600.out, NB600_596.out, bE⟩)
 rintro ⟨gb599, gb600⟩ w8 ⟨hS_, h0_, h1_, h2_, h3_, h4_, h5_, h6_, h7_, h8_, h9_, h10_, h11_, h12_, h13_, h14_, h15_, h16_, h17_, h18_⟩; have n0_ : Aside0 (w8.heap[gb595]? = some (.cells #[.int .i64 0, .int .i64 0] 26 (0, 0))) := ⟨h0_⟩; have n1_ : Aside0 (w8.heap[gb596]? = some (.cells #[.int .i64 0, .int .i64 0] 26 (0, 0))) := ⟨h1_⟩; have n2_ : Aside0 (w8.heap[gb599]? = some (.cells #[.int .i64 0, .int .i64 0] 26 (0, 0))) := ⟨h2_⟩; have n3_ : Aside0 (w8.heap[gb600]? = some (.cells #[.int .i64 0, .int .i64 0] 26 (0, 0))) := ⟨h3_⟩; have n4_ : Aside0 (w.heap.size ≤ gb599) := ⟨h4_⟩; have n5_ : Aside0 (w.heap.size ≤ gb599) := ⟨h5_⟩; have n6_ : Aside0 (gb595 ≠ gb599) := ⟨h6_⟩; have n7_ : Aside0 (gb599 ≠ gb595) := ⟨h7_⟩; have n8_ : Aside0 (gb596 ≠ gb599) := ⟨h8_⟩; have n9_ : Aside0 (gb599 ≠ gb596) := ⟨h9_⟩; have n10_ : Aside0 (gb600 ≠ gb599) := ⟨h10_⟩; have n11_ : Aside0 (gb599 ≠ gb600) := ⟨h11_⟩; have n12_ : Aside0 (w.heap.size ≤ gb600) := ⟨h12_⟩; have n13_ : Aside0 (w.heap.size ≤ gb600) := ⟨h13_⟩; have n14_ : Aside0 (gb595 ≠ gb600) := ⟨h14_⟩; have n15_ : Aside0 (gb600 ≠ gb595) := ⟨h15_⟩; have n16_ : Aside0 (gb596 ≠ gb600) := ⟨h16_⟩; have n17_ : Aside0 (gb600 ≠ gb596) := ⟨h17_⟩; have n18_ : Aside0 (Below w.heap.size w w8) := ⟨h18_⟩; clear BK595; clear BK596; clear HB; clear h0_ h1_ h2_ h3_ h4_ h5_ h6_ h7_ h8_ h9_ h10_ h11_ h12_ h13_ h14_ h15_ h16_ h17_ h18_; have BK595 := n0_; have BK596 := n1_; have BK599 := n2_; have BK600 := n3_; have GW599 := n4_; have GE599 := n5_; have NB595_599 := n6_; have NB599_595 := n7_; have NB596_599 := n8_; have NB599_596 := n9_; have NB600_599 := n10_; have NB599_600 := n11_; have GW600 := n12_; have GE600 := n13_; have NB595_600 := n14_; have NB600_595 := n15_; have NB596_600 := n16_; have NB600_596 := n17_; have HB := n18_; clear n0_ n1_ n2_ n3_ n4_ n5_ n6_ n7_ n8_ n9_ n10_ n11_ n12_ n13_ n14_ n15_ n16_ n17_ n18_; have hHeld : w8.cell? ad597 = some (.int .i64 ((rd_impl_Peg l0 0).f0)) ∧ w8.cell? ⟨ad597.block, ad597.off + 1, none⟩ = some (.int .i64 ((rd_impl_Peg l0 0).f1)) ∧ w8.cell? ad597 = some (.int .i64 ((rd_impl_Peg l0 0).f0)) ∧ w8.cell? ⟨ad597.block, ad597.off + 1, none⟩ = some (.int .i64 ((rd_impl_Peg l0 0).f1)) := hS_
 refine norm_ (a' := ?_) ?_ ?_
 rotate_left
 ·simp only [putAll, Act.put, sI, sZ, sS]
  rfl
 refine one_ (i := 8) (N := none) (bA 10 511) rfl rfl (one_of HT_.out kR) (by decide) (fun K hK => ?_)
 have hs9 : w8.cell? ⟨gb599, 0, none⟩ = some (.int .i64 0) := vZ0 BK599; have hfs9 := kF BK599.out 0; have hns9_0 := NB595_599.out; have hns9_1 := NB596_599.out; have hns9_3 := NB600_599.out; have hms9_0 := NB599_595.out; have hms9_1 := NB599_596.out; have hms9_3 := NB599_600.out; have hs10 : w8.cell? ⟨gb599, 1, none⟩ = some (.int .i64 0) := vZ1 BK599; have hfs10 := kF BK599.out 1; have hns10_0 := NB595_599.out; have hns10_1 := NB596_599.out; have hns10_3 := NB600_599.out; have hms10_0 := NB599_595.out; have hms10_1 := NB599_596.out; have hms10_3 := NB599_600.out
 refine skip_ (w1 := ?_) (by rfl) rfl ?_ ?_
 rotate_left
 ·go_simp
  rfl
 refine hK.out _ _ ⟨((cell_far (p := ⟨gb599, _, none⟩) (by first | exact nN (nL (by have := wB _ _ hw597_0; first | rwa [add_block] at this | exact this) GW599.out) | (rw [add_block]; exact nN (nL (by have := wB _ _ hw597_0; first | rwa [add_block] at this | exact this) GW599.out)) | (show (Addr.add _ _).block ≠ _; rw [add_block]; exact nN (nL (by have := wB _ _ hw597_0; first | rwa [add_block] at this | exact this) GW599.out)) | (dsimp only; exact nN (nL (by have := wB _ _ hw597_0; first | rwa [add_block] at this | exact this) GW599.out))) _).trans (((cell_far (p := ⟨gb599, _, none⟩) (by first | exact nN (nL (by have := wB _ _ hw597_0; first | rwa [add_block] at this | exact this) GW599.out) | (rw [add_block]; exact nN (nL (by have := wB _ _ hw597_0; first | rwa [add_block] at this | exact this) GW599.out)) | (show (Addr.add _ _).block ≠ _; rw [add_block]; exact nN (nL (by have := wB _ _ hw597_0; first | rwa [add_block] at this | exact this) GW599.out)) | (dsimp only; exact nN (nL (by have := wB _ _ hw597_0; first | rwa [add_block] at this | exact this) GW599.out))) _).trans (hHeld.1)))), ((cell_far (p := ⟨gb599, _, none⟩) (by first | exact nN (nL (by have := wB _ _ hw597_1; first | rwa [add_block] at this | exact this) GW599.out) | (rw [add_block]; exact nN (nL (by have := wB _ _ hw597_1; first | rwa [add_block] at this | exact this) GW599.out)) | (show (Addr.add _ _).block ≠ _; rw [add_block]; exact nN (nL (by have := wB _ _ hw597_1; first | rwa [add_block] at this | exact this) GW599.out)) | (dsimp only; exact nN (nL (by have := wB _ _ hw597_1; first | rwa [add_block] at this | exact this) GW599.out))) _).trans (((cell_far (p := ⟨gb599, _, none⟩) (by first | exact nN (nL (by have := wB _ _ hw597_1; first | rwa [add_block] at this | exact this) GW599.out) | (rw [add_block]; exact nN (nL (by have := wB _ _ hw597_1; first | rwa [add_block] at this | exact this) GW599.out)) | (show (Addr.add _ _).block ≠ _; rw [add_block]; exact nN (nL (by have := wB _ _ hw597_1; first | rwa [add_block] at this | exact this) GW599.out)) | (dsimp only; exact nN (nL (by have := wB _ _ hw597_1; first | rwa [add_block] at this | exact this) GW599.out))) _).trans (hHeld.2.1)))), ((cell_far (p := ⟨gb599, _, none⟩) (by first | exact nN (nL (by have := wB _ _ hw598_0; first | rwa [add_block] at this | exact this) GW599.out) | (rw [add_block]; exact nN (nL (by have := wB _ _ hw598_0; first | rwa [add_block] at this | exact this) GW599.out)) | (show (Addr.add _ _).block ≠ _; rw [add_block]; exact nN (nL (by have := wB _ _ hw598_0; first | rwa [add_block] at this | exact this) GW599.out)) | (dsimp only; exact nN (nL (by have := wB _ _ hw598_0; first | rwa [add_block] at this | exact this) GW599.out))) _).trans (((cell_far (p := ⟨gb599, _, none⟩) (by first | exact nN (nL (by have := wB _ _ hw598_0; first | rwa [add_block] at this | exact this) GW599.out) | (rw [add_block]; exact nN (nL (by have := wB _ _ hw598_0; first | rwa [add_block] at this | exact this) GW599.out)) | (show (Addr.add _ _).block ≠ _; rw [add_block]; exact nN (nL (by have := wB _ _ hw598_0; first | rwa [add_block] at this | exact this) GW599.out)) | (dsimp only; exact nN (nL (by have := wB _ _ hw598_0; first | rwa [add_block] at this | exact this) GW599.out))) _).trans (hHeld.2.2.1)))), ((cell_far (p := ⟨gb599, _, none⟩) (by first | exact nN (nL (by have := wB _ _ hw598_1; first | rwa [add_block] at this | exact this) GW599.out) | (rw [add_block]; exact nN (nL (by have := wB _ _ hw598_1; first | rwa [add_block] at this | exact this) GW599.out)) | (show (Addr.add _ _).block ≠ _; rw [add_block]; exact nN (nL (by have := wB _ _ hw598_1; first | rwa [add_block] at this | exact this) GW599.out)) | (dsimp only; exact nN (nL (by have := wB _ _ hw598_1; first | rwa [add_block] at this | exact this) GW599.out))) _).trans (((cell_far (p := ⟨gb599, _, none⟩) (by first | exact nN (nL (by have := wB _ _ hw598_1; first | rwa [add_block] at this | exact this) GW599.out) | (rw [add_block]; exact nN (nL (by have := wB _ _ hw598_1; first | rwa [add_block] at this | exact this) GW599.out)) | (show (Addr.add _ _).block ≠ _; rw [add_block]; exact nN (nL (by have := wB _ _ hw598_1; first | rwa [add_block] at this | exact this) GW599.out)) | (dsimp only; exact nN (nL (by have := wB _ _ hw598_1; first | rwa [add_block] at this | exact this) GW599.out))) _).trans (hHeld.2.2.2))))⟩ (fun hHeld => ?_)
 clear hK K
 refine one_ (i := 9) (N := none) (bA 10 1023) rfl rfl (one_of HT_.out kR) (by decide) (fun K hK => ?_)
 have hs11 : w8.cell? ⟨gb600, 0, none⟩ = some (.int .i64 0) := vZ0 BK600; have hfs11 := kF BK600.out 0; have hns11_0 := NB595_600.out; have hns11_1 := NB596_600.out; have hns11_2 := NB599_600.out; have hms11_0 := NB600_595.out; have hms11_1 := NB600_596.out; have hms11_2 := NB600_599.out; have hs12 : w8.cell? ⟨gb600, 1, none⟩ = some (.int .i64 0) := vZ1 BK600; have hfs12 := kF BK600.out 1; have hns12_0 := NB595_600.out; have hns12_1 := NB596_600.out; have hns12_2 := NB599_600.out; have hms12_0 := NB600_595.out; have hms12_1 := NB600_596.out; have hms12_2 := NB600_599.out
 refine skip_ (w1 := ?_) (by rfl) rfl ?_ ?_
 rotate_left
 ·go_simp
  rfl
 refine hK.out _ _ ⟨((cell_far (p := ⟨gb600, _, none⟩) (by first | exact nN (nL (by have := wB _ _ hw597_0; first | rwa [add_block] at this | exact this) GW600.out) | (rw [add_block]; exact nN (nL (by have := wB _ _ hw597_0; first | rwa [add_block] at this | exact this) GW600.out)) | (show (Addr.add _ _).block ≠ _; rw [add_block]; exact nN (nL (by have := wB _ _ hw597_0; first | rwa [add_block] at this | exact this) GW600.out)) | (dsimp only; exact nN (nL (by have := wB _ _ hw597_0; first | rwa [add_block] at this | exact this) GW600.out))) _).trans (((cell_far (p := ⟨gb600, _, none⟩) (by first | exact nN (nL (by have := wB _ _ hw597_0; first | rwa [add_block] at this | exact this) GW600.out) | (rw [add_block]; exact nN (nL (by have := wB _ _ hw597_0; first | rwa [add_block] at this | exact this) GW600.out)) | (show (Addr.add _ _).block ≠ _; rw [add_block]; exact nN (nL (by have := wB _ _ hw597_0; first | rwa [add_block] at this | exact this) GW600.out)) | (dsimp only; exact nN (nL (by have := wB _ _ hw597_0; first | rwa [add_block] at this | exact this) GW600.out))) _).trans (hHeld.1)))), ((cell_far (p := ⟨gb600, _, none⟩) (by first | exact nN (nL (by have := wB _ _ hw597_1; first | rwa [add_block] at this | exact this) GW600.out) | (rw [add_block]; exact nN (nL (by have := wB _ _ hw597_1; first | rwa [add_block] at this | exact this) GW600.out)) | (show (Addr.add _ _).block ≠ _; rw [add_block]; exact nN (nL (by have := wB _ _ hw597_1; first | rwa [add_block] at this | exact this) GW600.out)) | (dsimp only; exact nN (nL (by have := wB _ _ hw597_1; first | rwa [add_block] at this | exact this) GW600.out))) _).trans (((cell_far (p := ⟨gb600, _, none⟩) (by first | exact nN (nL (by have := wB _ _ hw597_1; first | rwa [add_block] at this | exact this) GW600.out) | (rw [add_block]; exact nN (nL (by have := wB _ _ hw597_1; first | rwa [add_block] at this | exact this) GW600.out)) | (show (Addr.add _ _).block ≠ _; rw [add_block]; exact nN (nL (by have := wB _ _ hw597_1; first | rwa [add_block] at this | exact this) GW600.out)) | (dsimp only; exact nN (nL (by have := wB _ _ hw597_1; first | rwa [add_block] at this | exact this) GW600.out))) _).trans (hHeld.2.1)))), ((cell_far (p := ⟨gb600, _, none⟩) (by first | exact nN (nL (by have := wB _ _ hw598_0; first | rwa [add_block] at this | exact this) GW600.out) | (rw [add_block]; exact nN (nL (by have := wB _ _ hw598_0; first | rwa [add_block] at this | exact this) GW600.out)) | (show (Addr.add _ _).block ≠ _; rw [add_block]; exact nN (nL (by have := wB _ _ hw598_0; first | rwa [add_block] at this | exact this) GW600.out)) | (dsimp only; exact nN (nL (by have := wB _ _ hw598_0; first | rwa [add_block] at this | exact this) GW600.out))) _).trans (((cell_far (p := ⟨gb600, _, none⟩) (by first | exact nN (nL (by have := wB _ _ hw598_0; first | rwa [add_block] at this | exact this) GW600.out) | (rw [add_block]; exact nN (nL (by have := wB _ _ hw598_0; first | rwa [add_block] at this | exact this) GW600.out)) | (show (Addr.add _ _).block ≠ _; rw [add_block]; exact nN (nL (by have := wB _ _ hw598_0; first | rwa [add_block] at this | exact this) GW600.out)) | (dsimp only; exact nN (nL (by have := wB _ _ hw598_0; first | rwa [add_block] at this | exact this) GW600.out))) _).trans (hHeld.2.2.1)))), ((cell_far (p := ⟨gb600, _, none⟩) (by first | exact nN (nL (by have := wB _ _ hw598_1; first | rwa [add_block] at this | exact this) GW600.out) | (rw [add_block]; exact nN (nL (by have := wB _ _ hw598_1; first | rwa [add_block] at this | exact this) GW600.out)) | (show (Addr.add _ _).block ≠ _; rw [add_block]; exact nN (nL (by have := wB _ _ hw598_1; first | rwa [add_block] at this | exact this) GW600.out)) | (dsimp only; exact nN (nL (by have := wB _ _ hw598_1; first | rwa [add_block] at this | exact this) GW600.out))) _).trans (((cell_far (p := ⟨gb600, _, none⟩) (by first | exact nN (nL (by have := wB _ _ hw598_1; first | rwa [add_block] at this | exact this) GW600.out) | (rw [add_block]; exact nN (nL (by have := wB _ _ hw598_1; first | rwa [add_block] at this | exact this) GW600.out)) | (show (Addr.add _ _).block ≠ _; rw [add_block]; exact nN (nL (by have := wB _ _ hw598_1; first | rwa [add_block] at this | exact this) GW600.out)) | (dsimp only; exact nN (nL (by have := wB _ _ hw598_1; first | rwa [add_block] at this | exact this) GW600.out))) _).trans (hHeld.2.2.2))))⟩ (fun hHeld => ?_)
 clear hK K
 refine done_ (done_of HT_.out kR) ?_
 try go_wp2
 go_loopg [16] k (fun kq v16 w' => ∃ (x16_1 : Int) (x600000_1 : Int) (x600001_1 : Int) (x601000_1 : Int) (x601001_1 : Int), v16 = .int .i64 x16_1 ∧ Aside0 (impl_box.l0 kq l0 (l0.length : Int) x16_1 x600000_1 x600001_1 x601000_1 x601001_1 = some (r1, r2, r3, r4)) ∧ Aside0 (kq ≤ k) ∧ Aside0 (w'.heap[gb595]? = some (.cells #[.int .i64 0, .int .i64 0] 26 (0, 0))) ∧ Aside0 (w'.heap[gb596]? = some (.cells #[.int .i64 0, .int .i64 0] 26 (0, 0))) ∧ Aside0 (w'.heap[gb599]? = some (.cells #[.int .i64 x600000_1, .int .i64 x600001_1] 26 (0, 0))) ∧ Aside0 (w'.heap[gb600]? = some (.cells #[.int .i64 x601000_1, .int .i64 x601001_1] 26 (0, 0))) ∧ Aside0 (Below w.heap.size w w'))
 case atStart => exact ⟨(0), ((rd_impl_Peg l0 0).f0), ((rd_impl_Peg l0 0).f1), ((rd_impl_Peg l0 0).f0), ((rd_impl_Peg l0 0).f1), eQ, H', ⟨Nat.le_refl _⟩, ⟨fQ BK595⟩, ⟨fQ BK596⟩, ⟨fQ BK599⟩, ⟨fQ BK600⟩, ⟨bE⟩⟩
 case round =>
  clear H'; (try clear c2); (try clear c2b0); (try clear c2b1); (try clear hx597_0); (try clear hx597_1); (try clear hx598_0); (try clear hx598_1); (try clear p597); (try clear p598); (try clear q597); (try clear q598); obtain ⟨x16_1, x600000_1, x600001_1, x601000_1, x601001_1, rfl, HA, HK1, BK595, BK596, BK599, BK600, HB⟩ := hrel
  cases gk with
  | zero => exact absurd HA.out (by simp [impl_box.l0])
  | succ k1 =>
   have H := HA.out; clear HA
   simp only [impl_box.l0] at H
   by_cases c13 : x16_1 < (l0.length : Int)
   ·rw [if_pos c13] at H; have c13b0 := dE c13; clear c13; replace H := iD H; obtain ⟨c14b0, H⟩ := H; replace H := iD H; obtain ⟨c15b0, H⟩ := H; obtain ⟨ji16, hji16⟩ : ∃ j_ : Int, (mn x600000_1 ((rd_impl_Peg l0 x16_1).f0)) = j_ := ⟨_, rfl⟩
    (first | rw [hji16] at H | simp only [hji16] at H)
    have hji16_ : (if ((rd_impl_Peg l0 x16_1).f0) < x600000_1 then ((rd_impl_Peg l0 x16_1).f0) else x600000_1) = ji16 := hji16; obtain ⟨ji17, hji17⟩ : ∃ j_ : Int, (mn x600001_1 ((rd_impl_Peg l0 x16_1).f1)) = j_ := ⟨_, rfl⟩
    (first | rw [hji17] at H | simp only [hji17] at H)
    have hji17_ : (if ((rd_impl_Peg l0 x16_1).f1) < x600001_1 then ((rd_impl_Peg l0 x16_1).f1) else x600001_1) = ji17 := hji17; obtain ⟨ji18, hji18⟩ : ∃ j_ : Int, (mx x601000_1 ((rd_impl_Peg l0 x16_1).f0)) = j_ := ⟨_, rfl⟩
    (first | rw [hji18] at H | simp only [hji18] at H)
    have hji18_ : (if x601000_1 < ((rd_impl_Peg l0 x16_1).f0) then ((rd_impl_Peg l0 x16_1).f0) else x601000_1) = ji18 := hji18; obtain ⟨ji19, hji19⟩ : ∃ j_ : Int, (mx x601001_1 ((rd_impl_Peg l0 x16_1).f1)) = j_ := ⟨_, rfl⟩
    (first | rw [hji19] at H | simp only [hji19] at H)
    have hji19_ : (if x601001_1 < ((rd_impl_Peg l0 x16_1).f1) then ((rd_impl_Peg l0 x16_1).f1) else x601001_1) = ji19 := hji19; have H' := aM H; clear H; have p601 : 0 ≤ (x16_1 : Int) := dT aQ; have q601 : x16_1 < (l0.length : Int) := dT aQ; obtain ⟨ad601, e601, hx601_0, hx601_1⟩ := at_impl_Peg HR0.out x16_1 p601 q601; obtain rfl : ad597 = ad601 := (by injection e601)
    replace hx601_0 := hC HB hx601_0; replace hx601_1 := hC HB hx601_1; replace p601 := eq_true p601; replace q601 := eq_true q601
    go_wp2_with (first | ((with_reducible refine gate_dst (N := 7) rfl ?_); refine bV 7 (cs := #[.int .i64 0, .int .i64 0]) (t := 26) rfl rfl (by first | (go_simp; done) | (go_simp; rfl)) ?_; intro gb602 hg w20 hbox hb; have BK602 := hbox; have GW602 := gZ HB hg; have GE602 := gZ HB hg; have NB595_602 := nG BK595 hg; have NB602_595 := nH BK595 hg; have NB596_602 := nG BK596 hg; have NB602_596 := nH BK596 hg; have NB599_602 := nG BK599 hg; have NB602_599 := nH BK599 hg; have NB600_602 := nG BK600 hg; have NB602_600 := nH BK600 hg; replace BK595 := bB BK595 hb; replace BK596 := bB BK596 hb; replace BK599 := bB BK599 hb; replace BK600 := bB BK600 hb; replace HB := tB HB hb; clear hb hbox hg; have hnb21 := NB602_595.out; have hnc21 := NB595_602.out; have hnb22 := NB602_596.out; have hnc22 := NB596_602.out; have hnb23 := NB602_599.out; have hnc23 := NB599_602.out; have hnb24 := NB602_600.out; have hnc24 := NB600_602.out; have hcz25_0 := vZ0 BK602; have hcz25_1 := vZ1 BK602; have hfz25_0 := kF BK602.out 0; have hfz25_1 := kF BK602.out 1; have hnb26 := NB599_595.out; have hnc26 := NB595_599.out; have hnb27 := NB599_596.out; have hnc27 := NB596_599.out; have hnb28 := NB599_600.out; have hnc28 := NB600_599.out; have hcz29_0 := vZ0 BK599; have hcz29_1 := vZ1 BK599; have hfz29_0 := kF BK599.out 0; have hfz29_1 := kF BK599.out 1; have hnb30 := NB600_595.out; have hnc30 := NB595_600.out; have hnb31 := NB600_596.out; have hnc31 := NB596_600.out; have hcz32_0 := vZ0 BK600; have hcz32_1 := vZ1 BK600; have hfz32_0 := kF BK600.out 0; have hfz32_1 := kF BK600.out 1))
    go_roundg k1
    case measure => have := HK1.out; omega
    case rel => exact ⟨(wrap64 (x16_1 + 1)), (ji16), (ji17), (ji18), (ji19), eQ, H', ⟨by have := HK1.out; omega⟩, ⟨fQ BK595⟩, ⟨fQ BK596⟩, ⟨fQ BK599⟩, ⟨fQ BK600⟩, ⟨bE⟩⟩
   ·rw [if_neg c13] at H; have c13b0 := decide_eq_false c13; clear c13
    simp only [Option.some.injEq, Prod.mk.injEq] at H
    obtain ⟨rfl, rfl, rfl, rfl⟩ := H
    try go_wp2
    replace BK595 := aM (kD BK595.out); replace BK596 := aM (kD BK596.out); replace BK599 := aM (kD BK599.out); replace BK600 := aM (kD BK600.out); replace HB := aM (pD HB.out)
    refine start_ (n := 4) (S := fun w' => w'.cell? ⟨gb599, 0, none⟩ = some (.int .i64 x600000_1) ∧ w'.cell? ⟨gb599, 1, none⟩ = some (.int .i64 x600001_1) ∧ w'.cell? ⟨gb600, 0, none⟩ = some (.int .i64 x601000_1) ∧ w'.cell? ⟨gb600, 1, none⟩ = some (.int .i64 x601001_1)) (ds := []) (bA 4 0) kR rfl kR ⟨vZ0 BK599, vZ1 BK599, vZ0 BK600, vZ1 BK600⟩ (fun hHeld => ?_)
    generalize wr.drew = w33 at BK595 BK596 BK599 BK600 HB hHeld ⊢
    refine take_ (i := 0) (N := some 43) (v := ?_) (a' := ?_) (bA 4 1) rfl rfl kR (fun _ _ _ h => h) (Or.inl ⟨by rfl, ?_⟩) hHeld ?_ ?_
    rotate_left
    ·rintro w' ⟨s0, s1, s2, s3⟩
     go_simp
     with_reducible rfl
    rotate_left
    ·simp only [Act.put, sI, sZ, sS, i64_w, i32_w]
     rfl
    refine take_ (i := 1) (N := some 44) (v := ?_) (a' := ?_) (bA 4 3) rfl rfl kR (fun _ _ _ h => h) (Or.inl ⟨by rfl, ?_⟩) hHeld ?_ ?_
    rotate_left
    ·rintro w' ⟨s0, s1, s2, s3⟩
     go_simp
     with_reducible rfl
    rotate_left
    ·simp only [Act.put, sI, sZ, sS, i64_w, i32_w]
     rfl
    refine one_ (i := 2) (N := none) (bA 4 7) rfl rfl kR (by decide) (fun K hK => ?_)
    have hs34 : w33.cell? ⟨gb595, 0, none⟩ = some (.int .i64 0) := vZ0 BK595; have hfs34 := kF BK595.out 0; have hns34_1 := NB596_595.out; have hns34_2 := NB599_595.out; have hns34_3 := NB600_595.out; have hms34_1 := NB595_596.out; have hms34_2 := NB595_599.out; have hms34_3 := NB595_600.out; have hs35 : w33.cell? ⟨gb595, 1, none⟩ = some (.int .i64 0) := vZ1 BK595; have hfs35 := kF BK595.out 1; have hns35_1 := NB596_595.out; have hns35_2 := NB599_595.out; have hns35_3 := NB600_595.out; have hms35_1 := NB595_596.out; have hms35_2 := NB595_599.out; have hms35_3 := NB595_600.out
    refine skip_ (w1 := ?_) (by rfl) rfl ?_ ?_
    rotate_left
    ·go_simp
     rfl
    refine hK.out _ _ ⟨((cell_far (p := ⟨gb595, _, none⟩) NB599_595.out _).trans (((cell_far (p := ⟨gb595, _, none⟩) NB599_595.out _).trans (hHeld.1)))), ((cell_far (p := ⟨gb595, _, none⟩) NB599_595.out _).trans (((cell_far (p := ⟨gb595, _, none⟩) NB599_595.out _).trans (hHeld.2.1)))), ((cell_far (p := ⟨gb595, _, none⟩) NB600_595.out _).trans (((cell_far (p := ⟨gb595, _, none⟩) NB600_595.out _).trans (hHeld.2.2.1)))), ((cell_far (p := ⟨gb595, _, none⟩) NB600_595.out _).trans (((cell_far (p := ⟨gb595, _, none⟩) NB600_595.out _).trans (hHeld.2.2.2))))⟩ (fun hHeld => ?_)
    clear hK K
    refine one_ (i := 3) (N := none) (bA 4 15) rfl rfl kR (by decide) (fun K hK => ?_)
    have hs36 : w33.cell? ⟨gb596, 0, none⟩ = some (.int .i64 0) := vZ0 BK596; have hfs36 := kF BK596.out 0; have hns36_0 := NB595_596.out; have hns36_2 := NB599_596.out; have hns36_3 := NB600_596.out; have hms36_0 := NB596_595.out; have hms36_2 := NB596_599.out; have hms36_3 := NB596_600.out; have hs37 : w33.cell? ⟨gb596, 1, none⟩ = some (.int .i64 0) := vZ1 BK596; have hfs37 := kF BK596.out 1; have hns37_0 := NB595_596.out; have hns37_2 := NB599_596.out; have hns37_3 := NB600_596.out; have hms37_0 := NB596_595.out; have hms37_2 := NB596_599.out; have hms37_3 := NB596_600.out
    refine skip_ (w1 := ?_) (by rfl) rfl ?_ ?_
    rotate_left
    ·go_simp
     rfl
    refine hK.out _ _ ⟨((cell_far (p := ⟨gb596, _, none⟩) NB599_596.out _).trans (((cell_far (p := ⟨gb596, _, none⟩) NB599_596.out _).trans (hHeld.1)))), ((cell_far (p := ⟨gb596, _, none⟩) NB599_596.out _).trans (((cell_far (p := ⟨gb596, _, none⟩) NB599_596.out _).trans (hHeld.2.1)))), ((cell_far (p := ⟨gb596, _, none⟩) NB600_596.out _).trans (((cell_far (p := ⟨gb596, _, none⟩) NB600_596.out _).trans (hHeld.2.2.1)))), ((cell_far (p := ⟨gb596, _, none⟩) NB600_596.out _).trans (((cell_far (p := ⟨gb596, _, none⟩) NB600_596.out _).trans (hHeld.2.2.2))))⟩ (fun hHeld => ?_)
    clear hK K
    refine done_ kR ?_
    try go_wp2
    refine bodyPost_ret (results_cc rfl _ _ gb595 gb596 26 26 #[.int .i64 x600000_1, .int .i64 x600001_1] #[.int .i64 x601000_1, .int .i64 x601001_1] (0, 0) (0, 0) _ _ rfl (fQ BK595) Try.underlying26 rfl kR rfl (fQ BK596) Try.underlying26 rfl kR) rfl ?_
    exact ⟨wQ, bE⟩
end Go.Proofs.Ytklhakfmegbobaa.X
