-- thin
-- short
-- compact
import Derived.Test.YtfihohongkfibaaXA
import Derived.Test.YtfihohongkfibaaX0
namespace Go.Proofs.Ytfihohongkfibaa.X
open Go.RowKit Go.Proofs.Ytfihohongkfibaa.XW Go.Proofs.YtfihohongkfibaaW.PrintWords Go.Proofs.YtfihohongkfibaaW.PrintLast Go.Proofs.YtfihohongkfibaaW.PrintMore
attribute [local go_sem] max2_int min2_int max_two min_two max_three min_three max_four min_four   -- for this text's walks alone
set_option linter.unusedVariables false
set_option linter.unusedSimpArgs false

def impl_box.l0 : Nat → List (S_impl_Peg) → Int → Int → Int → Int → Int → Int → Option (Int × Int × Int × Int)
 | 0, _, _, _, _, _, _, _ => none
 | k + 1, x14, x15, x16, x296000, x296001, x297000, x297001 => if x16 < x15 then (if 0 ≤ x16 then (if x16 < (x14.length : Int) then (impl_box.l0 k x14 x15 (wrap64 (x16 + 1)) (mn x296000 ((rd_impl_Peg x14 x16).f0)) (mn x296001 ((rd_impl_Peg x14 x16).f1)) (mx x297000 ((rd_impl_Peg x14 x16).f0)) (mx x297001 ((rd_impl_Peg x14 x16).f1))) else (none)) else (none)) else (some (x296000, x296001, x297000, x297001))
def impl_box.f (k : Nat) (l0 : List (S_impl_Peg)) : Option (Int × Int × Int × Int) := if 0 < (l0.length : Int) then (impl_box.l0 k l0 (l0.length : Int) 0 ((rd_impl_Peg l0 0).f0) ((rd_impl_Peg l0 0).f1) ((rd_impl_Peg l0 0).f0) ((rd_impl_Peg l0 0).f1)) else (none)
theorem impl_box.mono_l : ∀ k, (∀ y0 y1 y2 y3 y4 y5 y6, LeO (impl_box.l0 k y0 y1 y2 y3 y4 y5 y6) (impl_box.l0 (k + 1) y0 y1 y2 y3 y4 y5 y6))
 | 0 => fun _ _ _ _ _ _ _ r h => by simp [impl_box.l0] at h
 | k + 1 => by
  have ih0 := impl_box.mono_l k
  ·intro y0 y1 y2 y3 y4 y5 y6
   unfold impl_box.l0
   repeat' first
   | (with_reducible exact ih0 _ _ _ _ _ _ _)
   | (with_reducible exact LeO.refl _)
   | (with_reducible exact LeO.none _)
   | (with_reducible refine LeO.ite ?_ ?_)
   | (with_reducible refine LeO.bind ?_ (fun _ => ?_))
   | exact ih0 _ _ _ _ _ _ _
   | exact LeO.none _
   | refine LeO.ite ?_ ?_
   | refine LeO.bind ?_ (fun _ => ?_)
theorem impl_box.mono : ∀ a0 k, LeO (impl_box.f k a0) (impl_box.f (k + 1) a0) := by
 intro a0 k
 have ih0 := impl_box.mono_l k
 unfold impl_box.f
 repeat' first | (with_reducible exact ih0 _ _ _ _ _ _ _) | (with_reducible exact LeO.refl _) | (with_reducible exact LeO.none _) | (with_reducible refine LeO.ite ?_ ?_) | (with_reducible refine LeO.bind ?_ (fun _ => ?_)) | exact ih0 _ _ _ _ _ _ _ | exact LeO.none _ | refine LeO.ite ?_ ?_ | refine LeO.bind ?_ (fun _ => ?_)
def impl_box.T1 : Bool × List (List Nat × List Nat) := (true, [([], []), ([0], [0]), ([1], [1]), ([], []), ([3], [3]), ([4], [4]), ([], []), ([], []), ([6, 2, 0, 1, 2, 6, 7], [2, 6]), ([7, 5, 8, 0, 1, 2, 3, 4, 5, 6, 7, 8], [5, 7])])
def impl_box.B1 : List Nat := [0, 1, 3, 0, 8, 24, 0, 0, 199, 511]
theorem impl_box.tab1 : rtab .any (opsOf Try.f124 1) = impl_box.T1 := by kernel_rfl
theorem impl_box.bits1 : waitsOk impl_box.T1.2 impl_box.B1 = true := by kernel_rfl
set_option maxHeartbeats 8000000 in
set_option maxRecDepth 100000 in
theorem impl_box.calls (k : Nat) (A0 : Option Addr) (c0 : Nat) (l0 : List (S_impl_Peg)) (r1 : Int) (r2 : Int) (r3 : Int) (r4 : Int) (w : World) (hr0 : Kd.C kd_impl_Peg w A0 l0.length l0) (hc0 : l0.length ≤ c0) (h : impl_box.f k l0 = some (r1, r2, r3, r4)) :
  Calls Try.prog 124 #[.slice A0 l0.length c0] w fun e w' => e = .returned (.tuple #[.agg #[.int .i64 r1, .int .i64 r2], .agg #[.int .i64 r3, .int .i64 r4]]) ∧ Below w.heap.size w w' := by
 have hu50 := Try.underlying50; have HR0 := aM hr0; have HC0 := aM hc0; clear hr0 hc0; have HB := aM (Below.refl w.heap.size w)
 unfold impl_box.f at h; have H := h; clear h
 replace H := iN H; obtain ⟨c2, H⟩ := H; have c2b0 := dE c2; have c2b1 : decide (0 < l0.length) = true := dE (by omega)
 clear c2; have H' := aM H; clear H
 go_enter Try.func124, Try.ntmps124
 try go_wp2_with (first | ((with_reducible refine gate_dst (N := 2) rfl ?_); refine bV 2 (cs := #[.int .i64 0, .int .i64 0]) (t := 50) rfl rfl (by first | (go_simp; done) | (go_simp; rfl)) ?_; intro gb291 hg w3 hbox hb; have BK291 := hbox; have GW291 := gZ HB hg; have GE291 := gZ HB hg; replace HB := tB HB hb; clear hb hbox hg) | ((with_reducible refine gate_dst (N := 3) rfl ?_); refine bV 3 (cs := #[.int .i64 0, .int .i64 0]) (t := 50) rfl rfl (by first | (go_simp; done) | (go_simp; rfl)) ?_; intro gb292 hg w4 hbox hb; have BK292 := hbox; have GW292 := gZ HB hg; have GE292 := gZ HB hg; have NB291_292 := nG BK291 hg; have NB292_291 := nH BK291 hg; replace BK291 := bB BK291 hb; replace HB := tB HB hb; clear hb hbox hg))
 replace BK291 := aM (kD BK291.out); replace BK292 := aM (kD BK292.out); replace HB := aM (pD HB.out); have p293 : 0 ≤ (0 : Int) := (by omega)
 have q293 : 0 < (l0.length : Int) := dT aQ; obtain ⟨ad293, e293, hx293_0, hx293_1⟩ := at_impl_Peg HR0.out 0 p293 q293; have hw293_1 := hx293_1
 (try rw [show ((0 : Int)).toNat = 0 from rfl] at hw293_1)
 (try rw [show 0 * 2 = 0 from rfl] at hw293_1)
 (try rw [Addr.add_zero'] at hw293_1)
 have hw293_0 := hx293_0
 (try rw [show ((0 : Int)).toNat = 0 from rfl] at hw293_0)
 (try rw [show 0 * 2 = 0 from rfl] at hw293_0)
 (try rw [Addr.add_zero'] at hw293_0)
 cases e293
 have qi293 : (0 < l0.length) = True := eq_true (by omega)
 (try rw [show ((0 : Int)).toNat = 0 from rfl] at hx293_0)
 (try rw [show 0 * 2 = 0 from rfl] at hx293_0)
 (try rw [Addr.add_zero'] at hx293_0)
 (try rw [show ((0 : Int)).toNat = 0 from rfl] at hx293_1)
 (try rw [show 0 * 2 = 0 from rfl] at hx293_1)
 (try rw [Addr.add_zero'] at hx293_1)
 replace hx293_0 := hC HB hx293_0; replace hx293_1 := hC HB hx293_1; replace p293 := eq_true p293; replace q293 := eq_true q293; have p294 : 0 ≤ (0 : Int) := (by omega)
 have q294 : 0 < (l0.length : Int) := dT aQ; obtain ⟨ad294, e294, hx294_0, hx294_1⟩ := at_impl_Peg HR0.out 0 p294 q294; have hw294_1 := hx294_1
 (try rw [show ((0 : Int)).toNat = 0 from rfl] at hw294_1)
 (try rw [show 0 * 2 = 0 from rfl] at hw294_1)
 (try rw [Addr.add_zero'] at hw294_1)
 have hw294_0 := hx294_0
 (try rw [show ((0 : Int)).toNat = 0 from rfl] at hw294_0)
 (try rw [show 0 * 2 = 0 from rfl] at hw294_0)
 (try rw [Addr.add_zero'] at hw294_0)
 obtain rfl : ad293 = ad294 := (by injection e294)
 have qi294 : (0 < l0.length) = True := eq_true (by omega)
 (try rw [show ((0 : Int)).toNat = 0 from rfl] at hx294_0)
 (try rw [show 0 * 2 = 0 from rfl] at hx294_0)
 (try rw [Addr.add_zero'] at hx294_0)
 (try rw [show ((0 : Int)).toNat = 0 from rfl] at hx294_1)
 (try rw [show 0 * 2 = 0 from rfl] at hx294_1)
 (try rw [Addr.add_zero'] at hx294_1)
 replace hx294_0 := hC HB hx294_0; replace hx294_1 := hC HB hx294_1; replace p294 := eq_true p294; replace q294 := eq_true q294
 refine start_ (n := 10) (S := fun w' => w'.cell? ad293 = some (.int .i64 ((rd_impl_Peg l0 0).f0)) ∧ w'.cell? ⟨ad293.block, ad293.off + 1, none⟩ = some (.int .i64 ((rd_impl_Peg l0 0).f1)) ∧ w'.cell? ad293 = some (.int .i64 ((rd_impl_Peg l0 0).f0)) ∧ w'.cell? ⟨ad293.block, ad293.off + 1, none⟩ = some (.int .i64 ((rd_impl_Peg l0 0).f1))) (ds := []) (bA 10 0) kR rfl kR ⟨(hC HB hw293_0 :), (hC HB hw293_1 :), (hC HB hw294_0 :), (hC HB hw294_1 :)⟩ (fun hHeld => ?_); refine with_tabW impl_box.tab1 impl_box.bits1 (fun HT_ HW_ => ?_)
 generalize w4.drew = w5 at BK291 BK292 HB hx293_0 hx293_1 hx294_0 hx294_1 hHeld ⊢
 refine pU 0 8 (bA 10 1) HT_ ?_; refine pU 1 9 (bA 10 3) HT_ ?_; refine pU 3 11 (bA 10 11) HT_ ?_; refine pU 4 12 (bA 10 27) HT_ ?_
 refine tU 2 10 (bA 10 31) HT_ HW_ hHeld ?_ (hy := Or.inl ⟨by rfl, by rintro w' ⟨s0, s1, s2, s3⟩; go_simp; with_reducible rfl⟩)
 refine tU 5 13 (bA 10 63) HT_ HW_ hHeld ?_ (hy := Or.inl ⟨by rfl, by rintro w' ⟨s0, s1, s2, s3⟩; go_simp; with_reducible rfl⟩)
 refine join_ (σ := Nat × Nat) 2 (bA 10 255) (fun s_ => [(4, .pointer (some ⟨s_.1, 0, none⟩)), (5, .pointer (some ⟨s_.2, 0, none⟩))]) (fun s_ w' => (w'.cell? ad293 = some (.int .i64 ((rd_impl_Peg l0 0).f0)) ∧ w'.cell? ⟨ad293.block, ad293.off + 1, none⟩ = some (.int .i64 ((rd_impl_Peg l0 0).f1)) ∧ w'.cell? ad293 = some (.int .i64 ((rd_impl_Peg l0 0).f0)) ∧ w'.cell? ⟨ad293.block, ad293.off + 1, none⟩ = some (.int .i64 ((rd_impl_Peg l0 0).f1))) ∧ (w'.heap[gb291]? = some (.cells #[.int .i64 0, .int .i64 0] 50 (0, 0))) ∧ (w'.heap[gb292]? = some (.cells #[.int .i64 0, .int .i64 0] 50 (0, 0))) ∧ (w'.heap[s_.1]? = some (.cells #[.int .i64 0, .int .i64 0] 50 (0, 0))) ∧ (w'.heap[s_.2]? = some (.cells #[.int .i64 0, .int .i64 0] 50 (0, 0))) ∧ (w.heap.size ≤ s_.1) ∧ (w.heap.size ≤ s_.1) ∧ (gb291 ≠ s_.1) ∧ (s_.1 ≠ gb291) ∧ (gb292 ≠ s_.1) ∧ (s_.1 ≠ gb292) ∧ (s_.2 ≠ s_.1) ∧ (s_.1 ≠ s_.2) ∧ (w.heap.size ≤ s_.2) ∧ (w.heap.size ≤ s_.2) ∧ (gb291 ≠ s_.2) ∧ (s_.2 ≠ gb291) ∧ (gb292 ≠ s_.2) ∧ (s_.2 ≠ gb292) ∧ (Below w.heap.size w w')) ?_ ?_
 rotate_left
 ·intro hCont
  refine two_ (i := 6) (j := 7) (Ni := some 4) (Nj := some 5) (bA 10 127) (bA 10 191) rfl rfl rfl rfl (two_of HT_.out kR) (by decide) (by decide) (fun K hK => ?_) (fun K hK => ?_)
  ·skip
   refine box_step ?hg (N := 4) ?hd (cs := #[.int .i64 0, .int .i64 0]) (t := 50) ?hr ?_; (case hd => rfl); (case hg => rfl); (case hr => first | (go_simp; done) | (go_simp; rfl))
   intro gb295 hg w6 hbox hb
   have BK295 := aM (hbox); have GW295 := gZ HB hg; have GE295 := gZ HB hg; have NB291_295 := nG BK291 hg; have NB295_291 := nH BK291 hg; have NB292_295 := nG BK292 hg; have NB295_292 := nH BK292 hg; replace BK291 := bB BK291 hb; replace BK292 := bB BK292 hb; replace HB := tB HB hb; clear hb hbox hg
   refine hK.out _ _ ⟨(hC HB hw293_0 :), (hC HB hw293_1 :), (hC HB hw294_0 :), (hC HB hw294_1 :)⟩ (fun hHeld => ?_)
   clear hK K
   refine nU ?_
   refine oU 7 5 (bA 10 255) HT_ (fun K hK => ?_)
   refine box_step ?hg (N := 5) ?hd (cs := #[.int .i64 0, .int .i64 0]) (t := 50) ?hr ?_; (case hd => rfl); (case hg => rfl); (case hr => first | (go_simp; done) | (go_simp; rfl))
   intro gb296 hg w7 hbox hb
   have BK296 := aM (hbox); have GW296 := gZ HB hg; have GE296 := gZ HB hg; have NB291_296 := nG BK291 hg; have NB296_291 := nH BK291 hg; have NB292_296 := nG BK292 hg; have NB296_292 := nH BK292 hg; have NB295_296 := nG BK295 hg; have NB296_295 := nH BK295 hg; replace BK291 := bB BK291 hb; replace BK292 := bB BK292 hb; replace BK295 := bB BK295 hb; replace HB := tB HB hb; clear hb hbox hg
   refine hK.out _ _ ⟨(hC HB hw293_0 :), (hC HB hw293_1 :), (hC HB hw294_0 :), (hC HB hw294_1 :)⟩ (fun hHeld => ?_)
   clear hK K
   refine nU ?_
   exact norm_ (by simp only [putAll, Act.put, sI, sZ, sS]) (hCont (gb295, gb296) _ ⟨hHeld, (gQ BK291), (gQ BK292), (gQ BK295), (gQ BK296), GW295.out, GE295.out, NB291_295.out, NB295_291.out, NB292_295.out, NB295_292.out, NB296_295.out, NB295_296.out, GW296.out, GE296.out, NB291_296.out, NB296_291.out, NB292_296.out, NB296_292.out, bE⟩)
  ·skip
   refine box_step ?hg (N := 5) ?hd (cs := #[.int .i64 0, .int .i64 0]) (t := 50) ?hr ?_; (case hd => rfl); (case hg => rfl); (case hr => first | (go_simp; done) | (go_simp; rfl))
   intro gb296 hg w6 hbox hb
   have BK296 := aM (hbox); have GW296 := gZ HB hg; have GE296 := gZ HB hg; have NB291_296 := nG BK291 hg; have NB296_291 := nH BK291 hg; have NB292_296 := nG BK292 hg; have NB296_292 := nH BK292 hg; replace BK291 := bB BK291 hb; replace BK292 := bB BK292 hb; replace HB := tB HB hb; clear hb hbox hg
   refine hK.out _ _ ⟨(hC HB hw293_0 :), (hC HB hw293_1 :), (hC HB hw294_0 :), (hC HB hw294_1 :)⟩ (fun hHeld => ?_)
   clear hK K
   refine nU ?_
   refine oU 6 4 (bA 10 255) HT_ (fun K hK => ?_)
   refine box_step ?hg (N := 4) ?hd (cs := #[.int .i64 0, .int .i64 0]) (t := 50) ?hr ?_; (case hd => rfl); (case hg => rfl); (case hr => first | (go_simp; done) | (go_simp; rfl))
   intro gb295 hg w7 hbox hb
   have BK295 := aM (hbox); have GW295 := gZ HB hg; have GE295 := gZ HB hg; have NB291_295 := nG BK291 hg; have NB295_291 := nH BK291 hg; have NB292_295 := nG BK292 hg; have NB295_292 := nH BK292 hg; have NB296_295 := nG BK296 hg; have NB295_296 := nH BK296 hg; replace BK291 := bB BK291 hb; replace BK292 := bB BK292 hb; replace BK296 := bB BK296 hb; replace HB := tB HB hb; clear hb hbox hg
   refine hK.out _ _ ⟨(hC HB hw293_0 :), (hC HB hw293_1 :), (hC HB hw294_0 :), (hC HB hw294_1 :)⟩ (fun hHeld => ?_)
   clear hK K
   refine nU ?_
   exact norm_ (by simp only [putAll, Act.put, sI, sZ, sS]) (hCont (gb295, gb296) _ ⟨hHeld, (gQ BK291), (gQ BK292), (gQ BK295), (gQ BK296), GW295.out, GE295.out, NB291_295.out, NB295_291.out, NB292_295.out, NB295_292.out, NB296_295.out, NB295_296.out, GW296.out, GE296.out, NB291_296.out, NB296_291.out, NB292_296.out, NB296_292.out, bE⟩)
 rintro ⟨gb295, gb296⟩ w8 ⟨hS_, h0_, h1_, h2_, h3_, h4_, h5_, h6_, h7_, h8_, h9_, h10_, h11_, h12_, h13_, h14_, h15_, h16_, h17_, h18_⟩; have n0_ : Aside0 (w8.heap[gb291]? = some (.cells #[.int .i64 0, .int .i64 0] 50 (0, 0))) := ⟨h0_⟩; have n1_ : Aside0 (w8.heap[gb292]? = some (.cells #[.int .i64 0, .int .i64 0] 50 (0, 0))) := ⟨h1_⟩; have n2_ : Aside0 (w8.heap[gb295]? = some (.cells #[.int .i64 0, .int .i64 0] 50 (0, 0))) := ⟨h2_⟩; have n3_ : Aside0 (w8.heap[gb296]? = some (.cells #[.int .i64 0, .int .i64 0] 50 (0, 0))) := ⟨h3_⟩; have n4_ : Aside0 (w.heap.size ≤ gb295) := ⟨h4_⟩; have n5_ : Aside0 (w.heap.size ≤ gb295) := ⟨h5_⟩; have n6_ : Aside0 (gb291 ≠ gb295) := ⟨h6_⟩; have n7_ : Aside0 (gb295 ≠ gb291) := ⟨h7_⟩; have n8_ : Aside0 (gb292 ≠ gb295) := ⟨h8_⟩; have n9_ : Aside0 (gb295 ≠ gb292) := ⟨h9_⟩; have n10_ : Aside0 (gb296 ≠ gb295) := ⟨h10_⟩; have n11_ : Aside0 (gb295 ≠ gb296) := ⟨h11_⟩; have n12_ : Aside0 (w.heap.size ≤ gb296) := ⟨h12_⟩; have n13_ : Aside0 (w.heap.size ≤ gb296) := ⟨h13_⟩; have n14_ : Aside0 (gb291 ≠ gb296) := ⟨h14_⟩; have n15_ : Aside0 (gb296 ≠ gb291) := ⟨h15_⟩; have n16_ : Aside0 (gb292 ≠ gb296) := ⟨h16_⟩; have n17_ : Aside0 (gb296 ≠ gb292) := ⟨h17_⟩; have n18_ : Aside0 (Below w.heap.size w w8) := ⟨h18_⟩; clear BK291; clear BK292; clear HB; clear h0_ h1_ h2_ h3_ h4_ h5_ h6_ h7_ h8_ h9_ h10_ h11_ h12_ h13_ h14_ h15_ h16_ h17_ h18_; have BK291 := n0_; have BK292 := n1_; have BK295 := n2_; have BK296 := n3_; have GW295 := n4_; have GE295 := n5_; have NB291_295 := n6_; have NB295_291 := n7_; have NB292_295 := n8_; have NB295_292 := n9_; have NB296_295 := n10_; have NB295_296 := n11_; have GW296 := n12_; have GE296 := n13_; have NB291_296 := n14_; have NB296_291 := n15_; have NB292_296 := n16_; have NB296_292 := n17_; have HB := n18_; clear n0_ n1_ n2_ n3_ n4_ n5_ n6_ n7_ n8_ n9_ n10_ n11_ n12_ n13_ n14_ n15_ n16_ n17_ n18_; have hHeld : w8.cell? ad293 = some (.int .i64 ((rd_impl_Peg l0 0).f0)) ∧ w8.cell? ⟨ad293.block, ad293.off + 1, none⟩ = some (.int .i64 ((rd_impl_Peg l0 0).f1)) ∧ w8.cell? ad293 = some (.int .i64 ((rd_impl_Peg l0 0).f0)) ∧ w8.cell? ⟨ad293.block, ad293.off + 1, none⟩ = some (.int .i64 ((rd_impl_Peg l0 0).f1)) := hS_
 refine norm_ (a' := ?_) ?_ ?_
 rotate_left
 ·simp only [putAll, Act.put, sI, sZ, sS]
  rfl
 refine one_ (i := 8) (N := none) (bA 10 511) rfl rfl (one_of HT_.out kR) (by decide) (fun K hK => ?_)
 have hs9 : w8.cell? ⟨gb295, 0, none⟩ = some (.int .i64 0) := vZ0 BK295; have hfs9 := kF BK295.out 0; have hns9_0 := NB291_295.out; have hns9_1 := NB292_295.out; have hns9_3 := NB296_295.out; have hms9_0 := NB295_291.out; have hms9_1 := NB295_292.out; have hms9_3 := NB295_296.out; have hs10 : w8.cell? ⟨gb295, 1, none⟩ = some (.int .i64 0) := vZ1 BK295; have hfs10 := kF BK295.out 1; have hns10_0 := NB291_295.out; have hns10_1 := NB292_295.out; have hns10_3 := NB296_295.out; have hms10_0 := NB295_291.out; have hms10_1 := NB295_292.out; have hms10_3 := NB295_296.out
 refine skip_ (w1 := ?_) (by rfl) rfl ?_ ?_
 rotate_left
 ·go_simp
  rfl
 refine hK.out _ _ ⟨((cell_far (p := ⟨gb295, _, none⟩) (by first | exact nN (nL (by have := wB _ _ hw293_0; first | rwa [add_block] at this | exact this) GW295.out) | (rw [add_block]; exact nN (nL (by have := wB _ _ hw293_0; first | rwa [add_block] at this | exact this) GW295.out)) | (show (Addr.add _ _).block ≠ _; rw [add_block]; exact nN (nL (by have := wB _ _ hw293_0; first | rwa [add_block] at this | exact this) GW295.out)) | (dsimp only; exact nN (nL (by have := wB _ _ hw293_0; first | rwa [add_block] at this | exact this) GW295.out))) _).trans (((cell_far (p := ⟨gb295, _, none⟩) (by first | exact nN (nL (by have := wB _ _ hw293_0; first | rwa [add_block] at this | exact this) GW295.out) | (rw [add_block]; exact nN (nL (by have := wB _ _ hw293_0; first | rwa [add_block] at this | exact this) GW295.out)) | (show (Addr.add _ _).block ≠ _; rw [add_block]; exact nN (nL (by have := wB _ _ hw293_0; first | rwa [add_block] at this | exact this) GW295.out)) | (dsimp only; exact nN (nL (by have := wB _ _ hw293_0; first | rwa [add_block] at this | exact this) GW295.out))) _).trans (hHeld.1)))), ((cell_far (p := ⟨gb295, _, none⟩) (by first | exact nN (nL (by have := wB _ _ hw293_1; first | rwa [add_block] at this | exact this) GW295.out) | (rw [add_block]; exact nN (nL (by have := wB _ _ hw293_1; first | rwa [add_block] at this | exact this) GW295.out)) | (show (Addr.add _ _).block ≠ _; rw [add_block]; exact nN (nL (by have := wB _ _ hw293_1; first | rwa [add_block] at this | exact this) GW295.out)) | (dsimp only; exact nN (nL (by have := wB _ _ hw293_1; first | rwa [add_block] at this | exact this) GW295.out))) _).trans (((cell_far (p := ⟨gb295, _, none⟩) (by first | exact nN (nL (by have := wB _ _ hw293_1; first | rwa [add_block] at this | exact this) GW295.out) | (rw [add_block]; exact nN (nL (by have := wB _ _ hw293_1; first | rwa [add_block] at this | exact this) GW295.out)) | (show (Addr.add _ _).block ≠ _; rw [add_block]; exact nN (nL (by have := wB _ _ hw293_1; first | rwa [add_block] at this | exact this) GW295.out)) | (dsimp only; exact nN (nL (by have := wB _ _ hw293_1; first | rwa [add_block] at this | exact this) GW295.out))) _).trans (hHeld.2.1)))), ((cell_far (p := ⟨gb295, _, none⟩) (by first | exact nN (nL (by have := wB _ _ hw294_0; first | rwa [add_block] at this | exact this) GW295.out) | (rw [add_block]; exact nN (nL (by have := wB _ _ hw294_0; first | rwa [add_block] at this | exact this) GW295.out)) | (show (Addr.add _ _).block ≠ _; rw [add_block]; exact nN (nL (by have := wB _ _ hw294_0; first | rwa [add_block] at this | exact this) GW295.out)) | (dsimp only; exact nN (nL (by have := wB _ _ hw294_0; first | rwa [add_block] at this | exact this) GW295.out))) _).trans (((cell_far (p := ⟨gb295, _, none⟩) (by first | exact nN (nL (by have := wB _ _ hw294_0; first | rwa [add_block] at this | exact this) GW295.out) | (rw [add_block]; exact nN (nL (by have := wB _ _ hw294_0; first | rwa [add_block] at this | exact this) GW295.out)) | (show (Addr.add _ _).block ≠ _; rw [add_block]; exact nN (nL (by have := wB _ _ hw294_0; first | rwa [add_block] at this | exact this) GW295.out)) | (dsimp only; exact nN (nL (by have := wB _ _ hw294_0; first | rwa [add_block] at this | exact this) GW295.out))) _).trans (hHeld.2.2.1)))), ((cell_far (p := ⟨gb295, _, none⟩) (by first | exact nN (nL (by have := wB _ _ hw294_1; first | rwa [add_block] at this | exact this) GW295.out) | (rw [add_block]; exact nN (nL (by have := wB _ _ hw294_1; first | rwa [add_block] at this | exact this) GW295.out)) | (show (Addr.add _ _).block ≠ _; rw [add_block]; exact nN (nL (by have := wB _ _ hw294_1; first | rwa [add_block] at this | exact this) GW295.out)) | (dsimp only; exact nN (nL (by have := wB _ _ hw294_1; first | rwa [add_block] at this | exact this) GW295.out))) _).trans (((cell_far (p := ⟨gb295, _, none⟩) (by first | exact nN (nL (by have := wB _ _ hw294_1; first | rwa [add_block] at this | exact this) GW295.out) | (rw [add_block]; exact nN (nL (by have := wB _ _ hw294_1; first | rwa [add_block] at this | exact this) GW295.out)) | (show (Addr.add _ _).block ≠ _; rw [add_block]; exact nN (nL (by have := wB _ _ hw294_1; first | rwa [add_block] at this | exact this) GW295.out)) | (dsimp only; exact nN (nL (by have := wB _ _ hw294_1; first | rwa [add_block] at this | exact this) GW295.out))) _).trans (hHeld.2.2.2))))⟩ (fun hHeld => ?_)
 clear hK K
 refine one_ (i := 9) (N := none) (bA 10 1023) rfl rfl (one_of HT_.out kR) (by decide) (fun K hK => ?_)
 have hs11 : w8.cell? ⟨gb296, 0, none⟩ = some (.int .i64 0) := vZ0 BK296; have hfs11 := kF BK296.out 0; have hns11_0 := NB291_296.out; have hns11_1 := NB292_296.out; have hns11_2 := NB295_296.out; have hms11_0 := NB296_291.out; have hms11_1 := NB296_292.out; have hms11_2 := NB296_295.out; have hs12 : w8.cell? ⟨gb296, 1, none⟩ = some (.int .i64 0) := vZ1 BK296; have hfs12 := kF BK296.out 1; have hns12_0 := NB291_296.out; have hns12_1 := NB292_296.out; have hns12_2 := NB295_296.out; have hms12_0 := NB296_291.out; have hms12_1 := NB296_292.out; have hms12_2 := NB296_295.out
 refine skip_ (w1 := ?_) (by rfl) rfl ?_ ?_
 rotate_left
 ·go_simp
  rfl
 refine hK.out _ _ ⟨((cell_far (p := ⟨gb296, _, none⟩) (by first | exact nN (nL (by have := wB _ _ hw293_0; first | rwa [add_block] at this | exact this) GW296.out) | (rw [add_block]; exact nN (nL (by have := wB _ _ hw293_0; first | rwa [add_block] at this | exact this) GW296.out)) | (show (Addr.add _ _).block ≠ _; rw [add_block]; exact nN (nL (by have := wB _ _ hw293_0; first | rwa [add_block] at this | exact this) GW296.out)) | (dsimp only; exact nN (nL (by have := wB _ _ hw293_0; first | rwa [add_block] at this | exact this) GW296.out))) _).trans (((cell_far (p := ⟨gb296, _, none⟩) (by first | exact nN (nL (by have := wB _ _ hw293_0; first | rwa [add_block] at this | exact this) GW296.out) | (rw [add_block]; exact nN (nL (by have := wB _ _ hw293_0; first | rwa [add_block] at this | exact this) GW296.out)) | (show (Addr.add _ _).block ≠ _; rw [add_block]; exact nN (nL (by have := wB _ _ hw293_0; first | rwa [add_block] at this | exact this) GW296.out)) | (dsimp only; exact nN (nL (by have := wB _ _ hw293_0; first | rwa [add_block] at this | exact this) GW296.out))) _).trans (hHeld.1)))), ((cell_far (p := ⟨gb296, _, none⟩) (by first | exact nN (nL (by have := wB _ _ hw293_1; first | rwa [add_block] at this | exact this) GW296.out) | (rw [add_block]; exact nN (nL (by have := wB _ _ hw293_1; first | rwa [add_block] at this | exact this) GW296.out)) | (show (Addr.add _ _).block ≠ _; rw [add_block]; exact nN (nL (by have := wB _ _ hw293_1; first | rwa [add_block] at this | exact this) GW296.out)) | (dsimp only; exact nN (nL (by have := wB _ _ hw293_1; first | rwa [add_block] at this | exact this) GW296.out))) _).trans (((cell_far (p := ⟨gb296, _, none⟩) (by first | exact nN (nL (by have := wB _ _ hw293_1; first | rwa [add_block] at this | exact this) GW296.out) | (rw [add_block]; exact nN (nL (by have := wB _ _ hw293_1; first | rwa [add_block] at this | exact this) GW296.out)) | (show (Addr.add _ _).block ≠ _; rw [add_block]; exact nN (nL (by have := wB _ _ hw293_1; first | rwa [add_block] at this | exact this) GW296.out)) | (dsimp only; exact nN (nL (by have := wB _ _ hw293_1; first | rwa [add_block] at this | exact this) GW296.out))) _).trans (hHeld.2.1)))), ((cell_far (p := ⟨gb296, _, none⟩) (by first | exact nN (nL (by have := wB _ _ hw294_0; first | rwa [add_block] at this | exact this) GW296.out) | (rw [add_block]; exact nN (nL (by have := wB _ _ hw294_0; first | rwa [add_block] at this | exact this) GW296.out)) | (show (Addr.add _ _).block ≠ _; rw [add_block]; exact nN (nL (by have := wB _ _ hw294_0; first | rwa [add_block] at this | exact this) GW296.out)) | (dsimp only; exact nN (nL (by have := wB _ _ hw294_0; first | rwa [add_block] at this | exact this) GW296.out))) _).trans (((cell_far (p := ⟨gb296, _, none⟩) (by first | exact nN (nL (by have := wB _ _ hw294_0; first | rwa [add_block] at this | exact this) GW296.out) | (rw [add_block]; exact nN (nL (by have := wB _ _ hw294_0; first | rwa [add_block] at this | exact this) GW296.out)) | (show (Addr.add _ _).block ≠ _; rw [add_block]; exact nN (nL (by have := wB _ _ hw294_0; first | rwa [add_block] at this | exact this) GW296.out)) | (dsimp only; exact nN (nL (by have := wB _ _ hw294_0; first | rwa [add_block] at this | exact this) GW296.out))) _).trans (hHeld.2.2.1)))), ((cell_far (p := ⟨gb296, _, none⟩) (by first | exact nN (nL (by have := wB _ _ hw294_1; first | rwa [add_block] at this | exact this) GW296.out) | (rw [add_block]; exact nN (nL (by have := wB _ _ hw294_1; first | rwa [add_block] at this | exact this) GW296.out)) | (show (Addr.add _ _).block ≠ _; rw [add_block]; exact nN (nL (by have := wB _ _ hw294_1; first | rwa [add_block] at this | exact this) GW296.out)) | (dsimp only; exact nN (nL (by have := wB _ _ hw294_1; first | rwa [add_block] at this | exact this) GW296.out))) _).trans (((cell_far (p := ⟨gb296, _, none⟩) (by first | exact nN (nL (by have := wB _ _ hw294_1; first | rwa [add_block] at this | exact this) GW296.out) | (rw [add_block]; exact nN (nL (by have := wB _ _ hw294_1; first | rwa [add_block] at this | exact this) GW296.out)) | (show (Addr.add _ _).block ≠ _; rw [add_block]; exact nN (nL (by have := wB _ _ hw294_1; first | rwa [add_block] at this | exact this) GW296.out)) | (dsimp only; exact nN (nL (by have := wB _ _ hw294_1; first | rwa [add_block] at this | exact this) GW296.out))) _).trans (hHeld.2.2.2))))⟩ (fun hHeld => ?_)
 clear hK K
 refine done_ (done_of HT_.out kR) ?_
 try go_wp2
 go_loopg [16] k (fun kq v16 w' => ∃ (x16_1 : Int) (x296000_1 : Int) (x296001_1 : Int) (x297000_1 : Int) (x297001_1 : Int), v16 = .int .i64 x16_1 ∧ Aside0 (impl_box.l0 kq l0 (l0.length : Int) x16_1 x296000_1 x296001_1 x297000_1 x297001_1 = some (r1, r2, r3, r4)) ∧ Aside0 (kq ≤ k) ∧ Aside0 (w'.heap[gb291]? = some (.cells #[.int .i64 0, .int .i64 0] 50 (0, 0))) ∧ Aside0 (w'.heap[gb292]? = some (.cells #[.int .i64 0, .int .i64 0] 50 (0, 0))) ∧ Aside0 (w'.heap[gb295]? = some (.cells #[.int .i64 x296000_1, .int .i64 x296001_1] 50 (0, 0))) ∧ Aside0 (w'.heap[gb296]? = some (.cells #[.int .i64 x297000_1, .int .i64 x297001_1] 50 (0, 0))) ∧ Aside0 (Below w.heap.size w w'))
 case atStart => exact ⟨(0), ((rd_impl_Peg l0 0).f0), ((rd_impl_Peg l0 0).f1), ((rd_impl_Peg l0 0).f0), ((rd_impl_Peg l0 0).f1), eQ, H', ⟨Nat.le_refl _⟩, ⟨fQ BK291⟩, ⟨fQ BK292⟩, ⟨fQ BK295⟩, ⟨fQ BK296⟩, ⟨bE⟩⟩
 case round =>
  clear H'; (try clear c2); (try clear c2b0); (try clear c2b1); (try clear hx293_0); (try clear hx293_1); (try clear hx294_0); (try clear hx294_1); (try clear p293); (try clear p294); (try clear q293); (try clear q294); obtain ⟨x16_1, x296000_1, x296001_1, x297000_1, x297001_1, rfl, HA, HK1, BK291, BK292, BK295, BK296, HB⟩ := hrel
  cases gk with
  | zero => exact absurd HA.out (by simp [impl_box.l0])
  | succ k1 =>
   have H := HA.out; clear HA
   simp only [impl_box.l0] at H
   by_cases c13 : x16_1 < (l0.length : Int)
   ·rw [if_pos c13] at H; have c13b0 := dE c13; clear c13; replace H := iD H; obtain ⟨c14b0, H⟩ := H; replace H := iD H; obtain ⟨c15b0, H⟩ := H; obtain ⟨ji16, hji16⟩ : ∃ j_ : Int, (mn x296000_1 ((rd_impl_Peg l0 x16_1).f0)) = j_ := ⟨_, rfl⟩
    (first | rw [hji16] at H | simp only [hji16] at H)
    have hji16_ : (if ((rd_impl_Peg l0 x16_1).f0) < x296000_1 then ((rd_impl_Peg l0 x16_1).f0) else x296000_1) = ji16 := hji16; obtain ⟨ji17, hji17⟩ : ∃ j_ : Int, (mn x296001_1 ((rd_impl_Peg l0 x16_1).f1)) = j_ := ⟨_, rfl⟩
    (first | rw [hji17] at H | simp only [hji17] at H)
    have hji17_ : (if ((rd_impl_Peg l0 x16_1).f1) < x296001_1 then ((rd_impl_Peg l0 x16_1).f1) else x296001_1) = ji17 := hji17; obtain ⟨ji18, hji18⟩ : ∃ j_ : Int, (mx x297000_1 ((rd_impl_Peg l0 x16_1).f0)) = j_ := ⟨_, rfl⟩
    (first | rw [hji18] at H | simp only [hji18] at H)
    have hji18_ : (if x297000_1 < ((rd_impl_Peg l0 x16_1).f0) then ((rd_impl_Peg l0 x16_1).f0) else x297000_1) = ji18 := hji18; obtain ⟨ji19, hji19⟩ : ∃ j_ : Int, (mx x297001_1 ((rd_impl_Peg l0 x16_1).f1)) = j_ := ⟨_, rfl⟩
    (first | rw [hji19] at H | simp only [hji19] at H)
    have hji19_ : (if x297001_1 < ((rd_impl_Peg l0 x16_1).f1) then ((rd_impl_Peg l0 x16_1).f1) else x297001_1) = ji19 := hji19; have H' := aM H; clear H; have p297 : 0 ≤ (x16_1 : Int) := dT aQ; have q297 : x16_1 < (l0.length : Int) := dT aQ; obtain ⟨ad297, e297, hx297_0, hx297_1⟩ := at_impl_Peg HR0.out x16_1 p297 q297; obtain rfl : ad293 = ad297 := (by injection e297)
    replace hx297_0 := hC HB hx297_0; replace hx297_1 := hC HB hx297_1; replace p297 := eq_true p297; replace q297 := eq_true q297
    go_wp2_with (first | ((with_reducible refine gate_dst (N := 7) rfl ?_); refine bV 7 (cs := #[.int .i64 0, .int .i64 0]) (t := 50) rfl rfl (by first | (go_simp; done) | (go_simp; rfl)) ?_; intro gb298 hg w20 hbox hb; have BK298 := hbox; have GW298 := gZ HB hg; have GE298 := gZ HB hg; have NB291_298 := nG BK291 hg; have NB298_291 := nH BK291 hg; have NB292_298 := nG BK292 hg; have NB298_292 := nH BK292 hg; have NB295_298 := nG BK295 hg; have NB298_295 := nH BK295 hg; have NB296_298 := nG BK296 hg; have NB298_296 := nH BK296 hg; replace BK291 := bB BK291 hb; replace BK292 := bB BK292 hb; replace BK295 := bB BK295 hb; replace BK296 := bB BK296 hb; replace HB := tB HB hb; clear hb hbox hg; have hnb21 := NB298_291.out; have hnc21 := NB291_298.out; have hnb22 := NB298_292.out; have hnc22 := NB292_298.out; have hnb23 := NB298_295.out; have hnc23 := NB295_298.out; have hnb24 := NB298_296.out; have hnc24 := NB296_298.out; have hcz25_0 := vZ0 BK298; have hcz25_1 := vZ1 BK298; have hfz25_0 := kF BK298.out 0; have hfz25_1 := kF BK298.out 1; have hnb26 := NB295_291.out; have hnc26 := NB291_295.out; have hnb27 := NB295_292.out; have hnc27 := NB292_295.out; have hnb28 := NB295_296.out; have hnc28 := NB296_295.out; have hcz29_0 := vZ0 BK295; have hcz29_1 := vZ1 BK295; have hfz29_0 := kF BK295.out 0; have hfz29_1 := kF BK295.out 1; have hnb30 := NB296_291.out; have hnc30 := NB291_296.out; have hnb31 := NB296_292.out; have hnc31 := NB292_296.out; have hcz32_0 := vZ0 BK296; have hcz32_1 := vZ1 BK296; have hfz32_0 := kF BK296.out 0; have hfz32_1 := kF BK296.out 1))
    go_roundg k1
    case measure => have := HK1.out; omega
    case rel => exact ⟨(wrap64 (x16_1 + 1)), (ji16), (ji17), (ji18), (ji19), eQ, H', ⟨by have := HK1.out; omega⟩, ⟨fQ BK291⟩, ⟨fQ BK292⟩, ⟨fQ BK295⟩, ⟨fQ BK296⟩, ⟨bE⟩⟩
   ·rw [if_neg c13] at H; have c13b0 := decide_eq_false c13; clear c13
    simp only [Option.some.injEq, Prod.mk.injEq] at H
    obtain ⟨rfl, rfl, rfl, rfl⟩ := H
    try go_wp2
    replace BK291 := aM (kD BK291.out); replace BK292 := aM (kD BK292.out); replace BK295 := aM (kD BK295.out); replace BK296 := aM (kD BK296.out); replace HB := aM (pD HB.out)
    refine start_ (n := 4) (S := fun w' => w'.cell? ⟨gb295, 0, none⟩ = some (.int .i64 x296000_1) ∧ w'.cell? ⟨gb295, 1, none⟩ = some (.int .i64 x296001_1) ∧ w'.cell? ⟨gb296, 0, none⟩ = some (.int .i64 x297000_1) ∧ w'.cell? ⟨gb296, 1, none⟩ = some (.int .i64 x297001_1)) (ds := []) (bA 4 0) kR rfl kR ⟨vZ0 BK295, vZ1 BK295, vZ0 BK296, vZ1 BK296⟩ (fun hHeld => ?_)
    generalize wr.drew = w33 at BK291 BK292 BK295 BK296 HB hHeld ⊢
    refine take_ (i := 0) (N := some 43) (v := ?_) (a' := ?_) (bA 4 1) rfl rfl kR (fun _ _ _ h => h) (Or.inl ⟨by rfl, ?_⟩) hHeld ?_ ?_
    rotate_left
    ·rintro w' ⟨s0, s1, s2, s3⟩
     go_simp
     with_reducible rfl
    rotate_left
    ·simp only [Act.put, sI, sZ, sS, i64_w, i32_w]
     rfl
    refine take_ (i := 1) (N := some 44) (v := ?_) (a' := ?_) (bA 4 3) rfl rfl kR (fun _ _ _ h => h) (Or.inl ⟨by rfl, ?_⟩) hHeld ?_ ?_
    rotate_left
    ·rintro w' ⟨s0, s1, s2, s3⟩
     go_simp
     with_reducible rfl
    rotate_left
    ·simp only [Act.put, sI, sZ, sS, i64_w, i32_w]
     rfl
    refine one_ (i := 2) (N := none) (bA 4 7) rfl rfl kR (by decide) (fun K hK => ?_)
    have hs34 : w33.cell? ⟨gb291, 0, none⟩ = some (.int .i64 0) := vZ0 BK291; have hfs34 := kF BK291.out 0; have hns34_1 := NB292_291.out; have hns34_2 := NB295_291.out; have hns34_3 := NB296_291.out; have hms34_1 := NB291_292.out; have hms34_2 := NB291_295.out; have hms34_3 := NB291_296.out; have hs35 : w33.cell? ⟨gb291, 1, none⟩ = some (.int .i64 0) := vZ1 BK291; have hfs35 := kF BK291.out 1; have hns35_1 := NB292_291.out; have hns35_2 := NB295_291.out; have hns35_3 := NB296_291.out; have hms35_1 := NB291_292.out; have hms35_2 := NB291_295.out; have hms35_3 := NB291_296.out
    refine skip_ (w1 := ?_) (by rfl) rfl ?_ ?_
    rotate_left
    ·go_simp
     rfl
    refine hK.out _ _ ⟨((cell_far (p := ⟨gb291, _, none⟩) NB295_291.out _).trans (((cell_far (p := ⟨gb291, _, none⟩) NB295_291.out _).trans (hHeld.1)))), ((cell_far (p := ⟨gb291, _, none⟩) NB295_291.out _).trans (((cell_far (p := ⟨gb291, _, none⟩) NB295_291.out _).trans (hHeld.2.1)))), ((cell_far (p := ⟨gb291, _, none⟩) NB296_291.out _).trans (((cell_far (p := ⟨gb291, _, none⟩) NB296_291.out _).trans (hHeld.2.2.1)))), ((cell_far (p := ⟨gb291, _, none⟩) NB296_291.out _).trans (((cell_far (p := ⟨gb291, _, none⟩) NB296_291.out _).trans (hHeld.2.2.2))))⟩ (fun hHeld => ?_)
    clear hK K
    refine one_ (i := 3) (N := none) (bA 4 15) rfl rfl kR (by decide) (fun K hK => ?_)
    have hs36 : w33.cell? ⟨gb292, 0, none⟩ = some (.int .i64 0) := vZ0 BK292; have hfs36 := kF BK292.out 0; have hns36_0 := NB291_292.out; have hns36_2 := NB295_292.out; have hns36_3 := NB296_292.out; have hms36_0 := NB292_291.out; have hms36_2 := NB292_295.out; have hms36_3 := NB292_296.out; have hs37 : w33.cell? ⟨gb292, 1, none⟩ = some (.int .i64 0) := vZ1 BK292; have hfs37 := kF BK292.out 1; have hns37_0 := NB291_292.out; have hns37_2 := NB295_292.out; have hns37_3 := NB296_292.out; have hms37_0 := NB292_291.out; have hms37_2 := NB292_295.out; have hms37_3 := NB292_296.out
    refine skip_ (w1 := ?_) (by rfl) rfl ?_ ?_
    rotate_left
    ·go_simp
     rfl
    refine hK.out _ _ ⟨((cell_far (p := ⟨gb292, _, none⟩) NB295_292.out _).trans (((cell_far (p := ⟨gb292, _, none⟩) NB295_292.out _).trans (hHeld.1)))), ((cell_far (p := ⟨gb292, _, none⟩) NB295_292.out _).trans (((cell_far (p := ⟨gb292, _, none⟩) NB295_292.out _).trans (hHeld.2.1)))), ((cell_far (p := ⟨gb292, _, none⟩) NB296_292.out _).trans (((cell_far (p := ⟨gb292, _, none⟩) NB296_292.out _).trans (hHeld.2.2.1)))), ((cell_far (p := ⟨gb292, _, none⟩) NB296_292.out _).trans (((cell_far (p := ⟨gb292, _, none⟩) NB296_292.out _).trans (hHeld.2.2.2))))⟩ (fun hHeld => ?_)
    clear hK K
    refine done_ kR ?_
    try go_wp2
    refine bodyPost_ret (results_cc rfl _ _ gb291 gb292 50 50 #[.int .i64 x296000_1, .int .i64 x296001_1] #[.int .i64 x297000_1, .int .i64 x297001_1] (0, 0) (0, 0) _ _ rfl (fQ BK291) Try.underlying50 rfl kR rfl (fQ BK292) Try.underlying50 rfl kR) rfl ?_
    exact ⟨wQ, bE⟩
end Go.Proofs.Ytfihohongkfibaa.X
