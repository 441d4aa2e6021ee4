-- thin
-- short
-- compact
import Derived.Test.YtklhakfmegbobaaXA
import Derived.Test.YtklhakfmegbobaaX0
import Derived.Test.YtklhakfmegbobaaX7
import Derived.Test.YtklhakfmegbobaaX10
namespace Go.Proofs.Ytklhakfmegbobaa.X
open Go.RowKit Go.Proofs.Ytklhakfmegbobaa.XW Go.Proofs.YtklhakfmegbobaaW.PrintWords Go.Proofs.YtklhakfmegbobaaW.PrintLast Go.Proofs.YtklhakfmegbobaaW.PrintMore
attribute [local go_sem] max2_int min2_int max_two min_two max_three min_three max_four min_four   -- for this text's walks alone
set_option linter.unusedVariables false
set_option linter.unusedSimpArgs false

mutual
def spec_pgFirst.j0 : Nat → List (S_impl_Peg) → Option ((List (S_impl_Peg)))
 | 0, _ => none
 | k + 1, x0 => spec_pgFirst.l0 k x0 0 x0 (x0.length : Int) 0
def spec_pgFirst.l0 : Nat → List (S_impl_Peg) → Int → List (S_impl_Peg) → Int → Int → Option ((List (S_impl_Peg)))
 | 0, _, _, _, _, _ => none
 | k + 1, x0, x3, x11, x12, x13 => if x13 < x12 then (if 0 ≤ x13 then (if x13 < (x11.length : Int) then (if 0 ≤ x3 then (if x3 < (x0.length : Int) then ((spec_pgLess.f ((rd_impl_Peg x11 x13).f0) ((rd_impl_Peg x11 x13).f1) ((rd_impl_Peg x0 x3).f0) ((rd_impl_Peg x0 x3).f1)).bind fun t216 => (if t216 = true then (spec_pgFirst.l0 k x0 x13 x11 x12 (wrap64 (x13 + 1))) else (spec_pgFirst.l0 k x0 x3 x11 x12 (wrap64 (x13 + 1))))) else (none)) else (none)) else (none)) else (none)) else ((some (([] : List (S_impl_Peg)) : List (S_impl_Peg))).bind fun y217 => (if 0 ≤ x3 then (if x3 ≤ (x0.length : Int) then ((some (x0.drop (x3 : Int).toNat : List (S_impl_Peg))).bind fun y220 => (if y217.length + y220.length < 8796093022208 then ((some (y217 ++ y220 : List (S_impl_Peg))).bind fun y224 => ((some (x0.take (x3 : Int).toNat : List (S_impl_Peg))).bind fun y227 => (if y224.length + y227.length < 8796093022208 then (some (y224 ++ y227)) else (none)))) else (none))) else (none)) else (none)))
end
def spec_pgFirst.f (k : Nat) (l0 : List (S_impl_Peg)) : Option ((List (S_impl_Peg))) := (spec_pgArea.f k l0).bind fun t209 => (if t209 < 0 then ((spec_pgBack.f k l0).bind fun t210 => (spec_pgFirst.j0 k t210)) else (spec_pgFirst.j0 k l0))
theorem spec_pgFirst.mono_l : ∀ k, (∀ y0, LeO (spec_pgFirst.j0 k y0) (spec_pgFirst.j0 (k + 1) y0)) ∧ (∀ y0 y1 y2 y3 y4, LeO (spec_pgFirst.l0 k y0 y1 y2 y3 y4) (spec_pgFirst.l0 (k + 1) y0 y1 y2 y3 y4))
 | 0 => ⟨fun _ r h => by simp [spec_pgFirst.j0] at h, fun _ _ _ _ _ r h => by simp [spec_pgFirst.l0] at h⟩
 | k + 1 => by
  obtain ⟨ih0, ih1⟩ := spec_pgFirst.mono_l k
  refine ⟨?_, ?_⟩ <;> intros <;> (first | unfold spec_pgFirst.j0 | unfold spec_pgFirst.l0) <;> repeat' first | (with_reducible exact ih0 _) | (with_reducible exact ih1 _ _ _ _ _) | (with_reducible exact spec_pgArea.mono _ _) | (with_reducible exact spec_pgBack.mono _ _) | (with_reducible exact LeO.refl _) | (with_reducible exact LeO.none _) | (with_reducible refine LeO.ite ?_ ?_) | (with_reducible refine LeO.bind ?_ (fun _ => ?_)) | exact ih0 _ | exact ih1 _ _ _ _ _ | exact spec_pgArea.mono _ _ | exact spec_pgBack.mono _ _ | exact LeO.none _ | refine LeO.ite ?_ ?_ | refine LeO.bind ?_ (fun _ => ?_)
theorem spec_pgFirst.mono : ∀ a0 k, LeO (spec_pgFirst.f k a0) (spec_pgFirst.f (k + 1) a0) := by
 intro a0 k
 obtain ⟨ih0, ih1⟩ := spec_pgFirst.mono_l k
 unfold spec_pgFirst.f
 repeat' first | (with_reducible exact ih0 _) | (with_reducible exact ih1 _ _ _ _ _) | (with_reducible exact spec_pgArea.mono _ _) | (with_reducible exact spec_pgBack.mono _ _) | (with_reducible exact LeO.refl _) | (with_reducible exact LeO.none _) | (with_reducible refine LeO.ite ?_ ?_) | (with_reducible refine LeO.bind ?_ (fun _ => ?_)) | exact ih0 _ | exact ih1 _ _ _ _ _ | exact spec_pgArea.mono _ _ | exact spec_pgBack.mono _ _ | exact LeO.none _ | refine LeO.ite ?_ ?_ | refine LeO.bind ?_ (fun _ => ?_)
def spec_pgFirst.T10 : Bool × List (List Nat × List Nat) := (true, [([], []), ([], []), ([], []), ([1, 2], [1, 2]), ([0, 3], [0, 3]), ([], []), ([], []), ([5, 6], [5, 6]), ([4, 7, 4], [4, 7]), ([8, 8, 0, 1, 2, 3, 4, 5, 6, 7, 8], [8])])
def spec_pgFirst.B10 : List Nat := [0, 0, 0, 6, 15, 0, 0, 96, 255, 511]
theorem spec_pgFirst.tab10 : rtab .any (opsOf Try.f77 10) = spec_pgFirst.T10 := by kernel_rfl
theorem spec_pgFirst.bits10 : waitsOk spec_pgFirst.T10.2 spec_pgFirst.B10 = true := by kernel_rfl
set_option maxHeartbeats 8000000 in
set_option maxRecDepth 100000 in
theorem spec_pgFirst.calls (k : Nat) (P0_ : Nat → Prop) (u9000_ : Value) (l0 : List (S_impl_Peg)) (r : List (S_impl_Peg)) (w0 w : World) (hB : Below w0.heap.size w0 w) (ho0 : Kd.R kd_impl_Peg 26 w w0.heap.size P0_ u9000_ l0) (h : spec_pgFirst.f k l0 = some r) :
  Calls Try.prog 77 #[u9000_] w fun e w' => ∃ v0_ : Value, e = .returned (v0_) ∧ Kd.R kd_impl_Peg 26 w' w0.heap.size (fun k_ => (P0_ k_ ∨ w.heap.size ≤ k_)) v0_ r ∧ Below w0.heap.size w0 w' ∧ Kept w w' (fun k_ => P0_ k_) := by
 have hu26 := Try.underlying26; have HO0 := aM (show Kd.R kd_impl_Peg 26 w w0.heap.size (fun k_ => (P0_ k_ ∨ w.heap.size ≤ k_)) u9000_ l0 from Kd.R_mono ho0 (fun k_ hk => (.inl hk))); have HK := aM (Kept.refl w (fun k_ => P0_ k_)); have HW0 := aM hB.size; have HB := aM hB; clear hB
 unfold spec_pgFirst.f at h; have H := h; clear h
 replace H := bS H; obtain ⟨t209, A2, H⟩ := H; have HC3 := aM H; clear H; obtain ⟨Ao4, co4, eo4⟩ := Kd.R_slice HO0.out; subst eo4
 go_enter Try.func77, Try.ntmps77
 go_upto_if 8 with (first | ((with_reducible refine gC (f := 56) rfl ?_); refine goesL_ (some 7) rfl rfl Try.func56 kR rfl #[.slice Ao4 l0.length co4] rfl sQ ?_; (with_reducible refine (spec_pgArea.calls k _ _ l0 t209 _ ?side1 ?side2 A2.out).mono ?_); (case side1 => repeat (first | exact (rR HO0.out).2.2 | (with_reducible refine cA ?_ _) | (with_reducible refine cN ?_ _) | (with_reducible refine cD ?_))); (case side2 => exact (rR HO0.out).2.1); rintro e w5 ⟨rfl, hb⟩; refine ⟨_, rfl, ?_⟩; have n0_ := aM (Kd.R_below (by (with_reducible repeat (first | apply rA | apply rN | apply rD)); exact HO0.out) hb); have n1_ := aM (Kept.below (S := (fun k_ => P0_ k_)) (by repeat (first | (with_reducible first | exact HK.out | apply Kept.alloc | apply Kept.drewN | apply Kept.drew) | exact HK.out)) hb); have n2_ := tB HB hb; clear HO0; clear HK; clear HB; have HO0 := n0_; have HK := n1_; have HB := n2_; clear n0_ n1_ n2_; (try clear hb); (try clear hb2); (try clear hk); (try clear hi)))
 (try simp only [Act.put, sI, sZ, sS])
 go_cut [0] (fun v0 wc => ∃ (kq : Nat) (x0_2 : List (S_impl_Peg)), Aside0 (spec_pgFirst.j0 kq x0_2 = some r) ∧ Aside0 (kq ≤ k) ∧ Aside0 (Kd.R kd_impl_Peg 26 wc w0.heap.size (fun k_ => (P0_ k_ ∨ w.heap.size ≤ k_)) v0 x0_2) ∧ Aside0 (Kept w wc (fun k_ => P0_ k_)) ∧ Aside0 (Below w0.heap.size w0 wc))
 case first =>
  have H := HC3.out; clear HC3
  by_cases c6 : t209 < 0
  ·rw [if_pos c6] at H; have c6b0 := dE c6; clear c6
   (first | rw [c6b0] | (simp only [i64_w, i32_w]; rw [c6b0]) | skip)
   replace H := bS H; obtain ⟨t210, A7, H⟩ := H; have H' := aM H; clear H
   go_wp2_with (first | ((with_reducible refine gC (f := 64) rfl ?_); refine goesL_ (some 10) rfl rfl Try.func64 kR rfl #[.slice Ao4 l0.length co4] rfl sQ ?_; (with_reducible refine (spec_pgBack.calls k _ _ l0 t210 _ ?side1 ?side2 A7.out).mono ?_); (case side1 => repeat (first | exact (rR HO0.out).2.2 | (with_reducible refine cA ?_ _) | (with_reducible refine cN ?_ _) | (with_reducible refine cD ?_))); (case side2 => exact (rR HO0.out).2.1); rintro e w8 ⟨v211, rfl, ho0, hb⟩; refine ⟨_, rfl, ?_⟩; have HO212 := aM (Kd.R_lower (Kd.R_new' (Kd.R_newM (M := fun k_ => (P0_ k_ ∨ w.heap.size ≤ k_)) ho0 (by first | exact HK.out.1 | exact (show Kept w _ (fun k_ => P0_ k_) from by repeat (first | (with_reducible first | exact HK.out | apply Kept.alloc | apply Kept.drewN | apply Kept.drew) | exact HK.out)).1) (fun k_ h_ => .inr h_)) (Kd.R_lt (by (with_reducible repeat (first | apply rA | apply rN | apply rD)); exact HO0.out))) (pZ bQ)); replace HO0 := aM (Kd.R_elder' (by (with_reducible repeat (first | apply rA | apply rN | apply rD)); exact HO0.out) (Kd.R_base ho0) hb); replace HK := aM (Kept.below (S := (fun k_ => P0_ k_)) (by repeat (first | (with_reducible first | exact HK.out | apply Kept.alloc | apply Kept.drewN | apply Kept.drew) | exact HK.out)) hb); replace HB := tB HB hb; (try clear hb); (try clear hb2); (try clear hk); (try clear hi); (try clear ho0)))
   go_meet
   case rel => exact ⟨_, (t210), H', ⟨by first | omega | exact Nat.le_refl _⟩, ⟨by (with_reducible repeat (first | apply rA | apply rN | apply rD)); exact Kd.R_mono HO212.out (fun _ hk => hk.1.1)⟩, ⟨by repeat (first | (with_reducible first | exact HK.out | apply Kept.alloc | apply Kept.drewN | apply Kept.drew) | exact HK.out)⟩, ⟨bQ⟩⟩
  ·rw [if_neg c6] at H; have c6b0 := decide_eq_false c6; clear c6
   (first | rw [c6b0] | (simp only [i64_w, i32_w]; rw [c6b0]) | skip)
   have H' := aM H; clear H; go_wp2
   go_meet
   case rel => exact ⟨_, (l0), H', ⟨by first | omega | exact Nat.le_refl _⟩, ⟨by (with_reducible repeat (first | apply rA | apply rN | apply rD)); exact HO0.out⟩, ⟨by repeat (first | (with_reducible first | exact HK.out | apply Kept.alloc | apply Kept.drewN | apply Kept.drew) | exact HK.out)⟩, ⟨bQ⟩⟩
 case rest =>
  clear HC3; obtain ⟨kq, x0_2, HA, HJ2, HO_0, HK, HB⟩ := hcut
  cases kq with
  | zero => exact absurd HA.out (by simp [spec_pgFirst.j0])
  | succ kj2 =>
   have H := HA.out; clear HA
   simp only [spec_pgFirst.j0] at H
   have H' := aM H; clear H; obtain ⟨Ao9, co9, eo9⟩ := Kd.R_slice HO_0.out; subst eo9; go_wp2
   go_loopg [3, 13] kj2 (fun kq v3 v13 w' => ∃ (x3_2 : Int) (x13_2 : Int), v3 = .int .i64 x3_2 ∧ v13 = .int .i64 x13_2 ∧ Aside0 (spec_pgFirst.l0 kq x0_2 x3_2 x0_2 (x0_2.length : Int) x13_2 = some r) ∧ Aside0 (kq ≤ kj2) ∧ Aside0 (Kd.R kd_impl_Peg 26 w' w0.heap.size (fun k_ => (P0_ k_ ∨ w.heap.size ≤ k_)) (.slice Ao9 x0_2.length co9) x0_2) ∧ Aside0 (Kd.R kd_impl_Peg 26 w' w0.heap.size (fun k_ => (P0_ k_ ∨ w.heap.size ≤ k_)) (.slice Ao9 x0_2.length co9) x0_2) ∧ Aside0 (Kept w w' (fun k_ => P0_ k_)) ∧ Aside0 (Below w0.heap.size w0 w'))
   case atStart => exact ⟨(0), (0), eQ, eQ, H', ⟨Nat.le_refl _⟩, ⟨by (with_reducible repeat (first | apply rA | apply rN | apply rD)); exact HO_0.out⟩, ⟨by (with_reducible repeat (first | apply rA | apply rN | apply rD)); exact HO_0.out⟩, ⟨by repeat (first | (with_reducible first | exact HK.out | apply Kept.alloc | apply Kept.drewN | apply Kept.drew) | exact HK.out)⟩, ⟨bQ⟩⟩
   case round =>
    clear H'; obtain ⟨x3_2, x13_2, rfl, rfl, HA, HK2, HO_0, HO_11, HK, HB⟩ := hrel
    cases gk with
    | zero => exact absurd HA.out (by simp [spec_pgFirst.l0])
    | succ k2 =>
     have H := HA.out; clear HA
     simp only [spec_pgFirst.l0] at H
     by_cases c10 : x13_2 < (x0_2.length : Int)
     ·rw [if_pos c10] at H; have c10b0 := dE c10; clear c10; replace H := iD H; obtain ⟨c11b0, H⟩ := H; replace H := iD H; obtain ⟨c12b0, H⟩ := H; replace H := iD H; obtain ⟨c13b0, H⟩ := H; replace H := iD H; obtain ⟨c14b0, H⟩ := H; replace H := bS H; obtain ⟨t216, A15, H⟩ := H
      by_cases c16 : t216 = true
      ·subst c16; replace H := iT H; have H' := aM H; clear H; have p213 : 0 ≤ (x13_2 : Int) := dT aQ; have q213 : x13_2 < (x0_2.length : Int) := dT aQ; obtain ⟨ad213, e213, hx213_0, hx213_1⟩ := at_impl_Peg (rR HO_11.out).2.2 x13_2 p213 q213
       cases e213
       replace p213 := eq_true p213; replace q213 := eq_true q213
       try go_wp2_with (first | ((with_reducible refine gate_dst (N := 5) rfl ?_); refine bV 5 (cs := #[.int .i64 0, .int .i64 0]) (t := 26) rfl rfl (by first | (go_simp; done) | (go_simp; rfl)) ?_; intro gb214 hg w17 hbox hb; have BK214 := hbox; have GW214 := aM ((by rw [hg]; exact (by first | exact HK.out.1 | exact (show Kept w _ (fun k_ => P0_ k_) from by repeat (first | (with_reducible first | exact HK.out | apply Kept.alloc | apply Kept.drewN | apply Kept.drew) | exact HK.out)).1) : w.heap.size ≤ gb214)); have GE214 := aM ((by rw [hg]; exact (pZ bQ) : w0.heap.size ≤ gb214)); replace HO_0 := aM (Kd.R_below (Kd.R_elderB (by (with_reducible repeat (first | apply rA | apply rN | apply rD)); exact HO_0.out) gb214 (Nat.le_of_eq hg.symm)) hb); replace HO_11 := aM (Kd.R_below (Kd.R_elderB (by (with_reducible repeat (first | apply rA | apply rN | apply rD)); exact HO_11.out) gb214 (Nat.le_of_eq hg.symm)) hb); replace HK := aM (Kept.below (S := (fun k_ => P0_ k_)) (by repeat (first | (with_reducible first | exact HK.out | apply Kept.alloc | apply Kept.drewN | apply Kept.drew) | exact HK.out)) hb); replace HB := tB HB hb; clear hb hbox hg; have hcz18_0 := vZ0 BK214; have hcz18_1 := vZ1 BK214; have hfz18_0 := kF BK214.out 0; have hfz18_1 := kF BK214.out 1))
       have n0_ : Aside0 (Kd.R kd_impl_Peg 26 ((w17.setCell ⟨gb214, 0, none⟩ (.int .i64 ((rd_impl_Peg x0_2 x13_2).f0))).setCell ⟨gb214, 1, none⟩ (.int .i64 ((rd_impl_Peg x0_2 x13_2).f1))) w0.heap.size (fun k_ => (P0_ k_ ∨ w.heap.size ≤ k_) ∧ k_ ≠ gb214) (.slice (some ad213) x0_2.length co9) x0_2) := ⟨by (with_reducible repeat (first | apply rA | apply rN | apply rD)); exact Kd.R_mono (Kd.R_far (p := ⟨gb214, 1, none⟩) (Kd.R_far (p := ⟨gb214, 0, none⟩) (Kd.R_mono HO_0.out (fun k_ hk => (⟨hk, hk.2⟩ : _ ∧ k_ ≠ gb214))) (fun _ hk => hk.2) (.int .i64 ((rd_impl_Peg x0_2 x13_2).f0))) (fun _ hk => hk.2) (.int .i64 ((rd_impl_Peg x0_2 x13_2).f1))) (fun _ hk => ⟨hk.1.1, hk.1.2⟩)⟩
       have n1_ : Aside0 (Kd.R kd_impl_Peg 26 ((w17.setCell ⟨gb214, 0, none⟩ (.int .i64 ((rd_impl_Peg x0_2 x13_2).f0))).setCell ⟨gb214, 1, none⟩ (.int .i64 ((rd_impl_Peg x0_2 x13_2).f1))) w0.heap.size (fun k_ => (P0_ k_ ∨ w.heap.size ≤ k_) ∧ k_ ≠ gb214) (.slice (some ad213) x0_2.length co9) x0_2) := ⟨by (with_reducible repeat (first | apply rA | apply rN | apply rD)); exact Kd.R_mono (Kd.R_far (p := ⟨gb214, 1, none⟩) (Kd.R_far (p := ⟨gb214, 0, none⟩) (Kd.R_mono HO_11.out (fun k_ hk => (⟨hk, hk.2⟩ : _ ∧ k_ ≠ gb214))) (fun _ hk => hk.2) (.int .i64 ((rd_impl_Peg x0_2 x13_2).f0))) (fun _ hk => hk.2) (.int .i64 ((rd_impl_Peg x0_2 x13_2).f1))) (fun _ hk => ⟨hk.1.1, hk.1.2⟩)⟩
       have n2_ : Aside0 (((w17.setCell ⟨gb214, 0, none⟩ (.int .i64 ((rd_impl_Peg x0_2 x13_2).f0))).setCell ⟨gb214, 1, none⟩ (.int .i64 ((rd_impl_Peg x0_2 x13_2).f1))).heap[gb214]? = some (.cells #[.int .i64 ((rd_impl_Peg x0_2 x13_2).f0), .int .i64 ((rd_impl_Peg x0_2 x13_2).f1)] 26 (0, 0))) := ⟨fQ BK214⟩; have n3_ : Aside0 (Kept w ((w17.setCell ⟨gb214, 0, none⟩ (.int .i64 ((rd_impl_Peg x0_2 x13_2).f0))).setCell ⟨gb214, 1, none⟩ (.int .i64 ((rd_impl_Peg x0_2 x13_2).f1))) (fun k_ => P0_ k_)) := ⟨by repeat (first | (with_reducible first | exact HK.out | apply Kept.alloc | apply Kept.drewN | apply Kept.drew | refine Kept.setCell ?_ (.inr GW214.out) _) | exact HK.out)⟩
       have n4_ : Aside0 (Below w0.heap.size w0 ((w17.setCell ⟨gb214, 0, none⟩ (.int .i64 ((rd_impl_Peg x0_2 x13_2).f0))).setCell ⟨gb214, 1, none⟩ (.int .i64 ((rd_impl_Peg x0_2 x13_2).f1)))) := ⟨bE⟩; (try clear HO_0); (try clear HO_11); (try clear BK214); (try clear HK); (try clear HB)
       generalize ((w17.setCell ⟨gb214, 0, none⟩ (.int .i64 ((rd_impl_Peg x0_2 x13_2).f0))).setCell ⟨gb214, 1, none⟩ (.int .i64 ((rd_impl_Peg x0_2 x13_2).f1))) = w19 at n0_ n1_ n2_ n3_ n4_ ⊢
       have HO_0 := n0_; have HO_11 := n1_; have BK214 := n2_; have HK := n3_; have HB := n4_; clear n0_ n1_ n2_ n3_ n4_; replace HO_0 := aM (rD HO_0.out); replace HO_11 := aM (rD HO_11.out); replace BK214 := aM (kD BK214.out); replace HK := aM (Kept.drew HK.out); replace HB := aM (pD HB.out); have p215 : 0 ≤ (x3_2 : Int) := dT aQ; have q215 : x3_2 < (x0_2.length : Int) := dT aQ; obtain ⟨ad215, e215, hx215_0, hx215_1⟩ := at_impl_Peg (rR HO_0.out).2.2 x3_2 p215 q215; obtain rfl : ad213 = ad215 := (by injection e215)
       replace p215 := eq_true p215; replace q215 := eq_true q215
       refine start_ (n := 6) (S := fun w' => w'.cell? ⟨gb214, 0, none⟩ = some (.int .i64 ((rd_impl_Peg x0_2 x13_2).f0)) ∧ w'.cell? ⟨gb214, 1, none⟩ = some (.int .i64 ((rd_impl_Peg x0_2 x13_2).f1)) ∧ w'.cell? (ad213.add ((x3_2).toNat * 2)) = some (.int .i64 ((rd_impl_Peg x0_2 x3_2).f0)) ∧ w'.cell? ⟨(ad213.add ((x3_2).toNat * 2)).block, (ad213.add ((x3_2).toNat * 2)).off + 1, none⟩ = some (.int .i64 ((rd_impl_Peg x0_2 x3_2).f1))) (ds := []) (bA 6 0) kR rfl kR ⟨vZ0 BK214, vZ1 BK214, hx215_0, hx215_1⟩ (fun hHeld => ?_)
       generalize w19.drew = w20 at HO_0 HO_11 BK214 HK HB hx215_0 hx215_1 hHeld ⊢
       refine pure_ (i := 1) (N := some 19) (v := ?_) (a' := ?_) (bA 6 2) rfl rfl kR (fun _ _ _ h => h) (Or.inl ⟨by rfl, ?_⟩) ?_ ?_
       rotate_left
       ·intro w'
        go_simp
        with_reducible rfl
       rotate_left
       ·simp only [Act.put, sI, sZ, sS, i64_w, i32_w]
        rfl
       refine pure_ (i := 2) (N := some 20) (v := ?_) (a' := ?_) (bA 6 6) rfl rfl kR (fun _ _ _ h => h) (Or.inl ⟨by rfl, ?_⟩) ?_ ?_
       rotate_left
       ·intro w'
        go_simp
        with_reducible rfl
       rotate_left
       ·simp only [Act.put, sI, sZ, sS, i64_w, i32_w]
        rfl
       refine pure_ (i := 3) (N := some 21) (v := ?_) (a' := ?_) (bA 6 14) rfl rfl kR (fun _ _ _ h => h) (Or.inl ⟨by rfl, ?_⟩) ?_ ?_
       rotate_left
       ·intro w'
        go_simp
        with_reducible rfl
       rotate_left
       ·simp only [Act.put, sI, sZ, sS, i64_w, i32_w]
        rfl
       refine take_ (i := 0) (N := some 18) (v := ?_) (a' := ?_) (bA 6 15) rfl rfl kR (fun _ _ _ h => h) (Or.inl ⟨by rfl, ?_⟩) hHeld ?_ ?_
       rotate_left
       ·rintro w' ⟨s0, s1, s2, s3⟩
        go_simp
        with_reducible rfl
       rotate_left
       ·simp only [Act.put, sI, sZ, sS, i64_w, i32_w]
        rfl
       refine take_ (i := 4) (N := some 22) (v := ?_) (a' := ?_) (bA 6 31) rfl rfl kR (fun _ _ _ h => h) (Or.inl ⟨by rfl, ?_⟩) hHeld ?_ ?_
       rotate_left
       ·rintro w' ⟨s0, s1, s2, s3⟩
        go_simp
        with_reducible rfl
       rotate_left
       ·simp only [Act.put, sI, sZ, sS, i64_w, i32_w]
        rfl
       refine one_ (i := 5) (N := some 23) (bA 6 63) rfl rfl kR (by decide) (fun K hK => ?_)
       refine goes_ Try.func124 kR rfl #[.agg #[.int .i64 ((rd_impl_Peg x0_2 x13_2).f0), .int .i64 ((rd_impl_Peg x0_2 x13_2).f1)], .agg #[.int .i64 ((rd_impl_Peg x0_2 x3_2).f0), .int .i64 ((rd_impl_Peg x0_2 x3_2).f1)]] (by rfl) rfl rfl sQ ?_
       with_reducible refine (spec_pgLess.calls ((rd_impl_Peg x0_2 x13_2).f0) ((rd_impl_Peg x0_2 x13_2).f1) ((rd_impl_Peg x0_2 x3_2).f0) ((rd_impl_Peg x0_2 x3_2).f1) true _ A15.out).mono ?_
       rintro e w21 ⟨rfl, hb⟩; have HS2_ := (hb.cell (wB _ _ (hHeld.2.2.1))).trans (hHeld.2.2.1); have HS3_ := (hb.cell (wB _ _ (hHeld.2.2.2))).trans (hHeld.2.2.2); refine ⟨_, rfl, ?_⟩; replace HO_0 := aM (Kd.R_below (by (with_reducible repeat (first | apply rA | apply rN | apply rD)); exact HO_0.out) hb); replace HO_11 := aM (Kd.R_below (by (with_reducible repeat (first | apply rA | apply rN | apply rD)); exact HO_11.out) hb); replace BK214 := bB BK214 hb; replace HK := aM (Kept.below (S := (fun k_ => P0_ k_)) (by repeat (first | (with_reducible first | exact HK.out | apply Kept.alloc | apply Kept.drewN | apply Kept.drew | refine Kept.setCell ?_ (.inr GW214.out) _) | exact HK.out)) hb); replace HB := tB HB hb
       (try clear hb); (try clear hb2); (try clear hk); (try clear hi)
       refine hK.out _ _ ⟨vZ0 BK214, vZ1 BK214, HS2_, HS3_⟩ (fun hHeld => ?_)
       clear hK K
       refine nU ?_
       refine done_ kR ?_
       try go_wp2
       go_roundg k2
       case measure => have := HJ2.out; have := HK2.out; omega
       case rel => exact ⟨(x13_2), (wrap64 (x13_2 + 1)), eQ, eQ, H', ⟨by have := HJ2.out; have := HK2.out; omega⟩, ⟨by (with_reducible repeat (first | apply rA | apply rN | apply rD)); exact Kd.R_mono HO_0.out (fun _ hk => hk.1)⟩, ⟨by (with_reducible repeat (first | apply rA | apply rN | apply rD)); exact Kd.R_mono HO_11.out (fun _ hk => hk.1)⟩, ⟨by repeat (first | (with_reducible first | exact HK.out | apply Kept.alloc | apply Kept.drewN | apply Kept.drew | refine Kept.setCell ?_ (.inr GW214.out) _) | exact HK.out)⟩, ⟨bE⟩⟩
      ·replace c16 := Bool.eq_false_iff.mpr c16; subst c16; replace H := iF H; have H' := aM H; clear H; have p213 : 0 ≤ (x13_2 : Int) := dT aQ; have q213 : x13_2 < (x0_2.length : Int) := dT aQ; obtain ⟨ad213, e213, hx213_0, hx213_1⟩ := at_impl_Peg (rR HO_11.out).2.2 x13_2 p213 q213
       cases e213
       replace p213 := eq_true p213; replace q213 := eq_true q213
       try go_wp2_with (first | ((with_reducible refine gate_dst (N := 5) rfl ?_); refine bV 5 (cs := #[.int .i64 0, .int .i64 0]) (t := 26) rfl rfl (by first | (go_simp; done) | (go_simp; rfl)) ?_; intro gb214 hg w22 hbox hb; have BK214 := hbox; have GW214 := aM ((by rw [hg]; exact (by first | exact HK.out.1 | exact (show Kept w _ (fun k_ => P0_ k_) from by repeat (first | (with_reducible first | exact HK.out | apply Kept.alloc | apply Kept.drewN | apply Kept.drew) | exact HK.out)).1) : w.heap.size ≤ gb214)); have GE214 := aM ((by rw [hg]; exact (pZ bQ) : w0.heap.size ≤ gb214)); replace HO_0 := aM (Kd.R_below (Kd.R_elderB (by (with_reducible repeat (first | apply rA | apply rN | apply rD)); exact HO_0.out) gb214 (Nat.le_of_eq hg.symm)) hb); replace HO_11 := aM (Kd.R_below (Kd.R_elderB (by (with_reducible repeat (first | apply rA | apply rN | apply rD)); exact HO_11.out) gb214 (Nat.le_of_eq hg.symm)) hb); replace HK := aM (Kept.below (S := (fun k_ => P0_ k_)) (by repeat (first | (with_reducible first | exact HK.out | apply Kept.alloc | apply Kept.drewN | apply Kept.drew) | exact HK.out)) hb); replace HB := tB HB hb; clear hb hbox hg; have hcz23_0 := vZ0 BK214; have hcz23_1 := vZ1 BK214; have hfz23_0 := kF BK214.out 0; have hfz23_1 := kF BK214.out 1))
       have n0_ : Aside0 (Kd.R kd_impl_Peg 26 ((w22.setCell ⟨gb214, 0, none⟩ (.int .i64 ((rd_impl_Peg x0_2 x13_2).f0))).setCell ⟨gb214, 1, none⟩ (.int .i64 ((rd_impl_Peg x0_2 x13_2).f1))) w0.heap.size (fun k_ => (P0_ k_ ∨ w.heap.size ≤ k_) ∧ k_ ≠ gb214) (.slice (some ad213) x0_2.length co9) x0_2) := ⟨by (with_reducible repeat (first | apply rA | apply rN | apply rD)); exact Kd.R_mono (Kd.R_far (p := ⟨gb214, 1, none⟩) (Kd.R_far (p := ⟨gb214, 0, none⟩) (Kd.R_mono HO_0.out (fun k_ hk => (⟨hk, hk.2⟩ : _ ∧ k_ ≠ gb214))) (fun _ hk => hk.2) (.int .i64 ((rd_impl_Peg x0_2 x13_2).f0))) (fun _ hk => hk.2) (.int .i64 ((rd_impl_Peg x0_2 x13_2).f1))) (fun _ hk => ⟨hk.1.1, hk.1.2⟩)⟩
       have n1_ : Aside0 (Kd.R kd_impl_Peg 26 ((w22.setCell ⟨gb214, 0, none⟩ (.int .i64 ((rd_impl_Peg x0_2 x13_2).f0))).setCell ⟨gb214, 1, none⟩ (.int .i64 ((rd_impl_Peg x0_2 x13_2).f1))) w0.heap.size (fun k_ => (P0_ k_ ∨ w.heap.size ≤ k_) ∧ k_ ≠ gb214) (.slice (some ad213) x0_2.length co9) x0_2) := ⟨by (with_reducible repeat (first | apply rA | apply rN | apply rD)); exact Kd.R_mono (Kd.R_far (p := ⟨gb214, 1, none⟩) (Kd.R_far (p := ⟨gb214, 0, none⟩) (Kd.R_mono HO_11.out (fun k_ hk => (⟨hk, hk.2⟩ : _ ∧ k_ ≠ gb214))) (fun _ hk => hk.2) (.int .i64 ((rd_impl_Peg x0_2 x13_2).f0))) (fun _ hk => hk.2) (.int .i64 ((rd_impl_Peg x0_2 x13_2).f1))) (fun _ hk => ⟨hk.1.1, hk.1.2⟩)⟩
       have n2_ : Aside0 (((w22.setCell ⟨gb214, 0, none⟩ (.int .i64 ((rd_impl_Peg x0_2 x13_2).f0))).setCell ⟨gb214, 1, none⟩ (.int .i64 ((rd_impl_Peg x0_2 x13_2).f1))).heap[gb214]? = some (.cells #[.int .i64 ((rd_impl_Peg x0_2 x13_2).f0), .int .i64 ((rd_impl_Peg x0_2 x13_2).f1)] 26 (0, 0))) := ⟨fQ BK214⟩; have n3_ : Aside0 (Kept w ((w22.setCell ⟨gb214, 0, none⟩ (.int .i64 ((rd_impl_Peg x0_2 x13_2).f0))).setCell ⟨gb214, 1, none⟩ (.int .i64 ((rd_impl_Peg x0_2 x13_2).f1))) (fun k_ => P0_ k_)) := ⟨by repeat (first | (with_reducible first | exact HK.out | apply Kept.alloc | apply Kept.drewN | apply Kept.drew | refine Kept.setCell ?_ (.inr GW214.out) _) | exact HK.out)⟩
       have n4_ : Aside0 (Below w0.heap.size w0 ((w22.setCell ⟨gb214, 0, none⟩ (.int .i64 ((rd_impl_Peg x0_2 x13_2).f0))).setCell ⟨gb214, 1, none⟩ (.int .i64 ((rd_impl_Peg x0_2 x13_2).f1)))) := ⟨bE⟩; (try clear HO_0); (try clear HO_11); (try clear BK214); (try clear HK); (try clear HB)
       generalize ((w22.setCell ⟨gb214, 0, none⟩ (.int .i64 ((rd_impl_Peg x0_2 x13_2).f0))).setCell ⟨gb214, 1, none⟩ (.int .i64 ((rd_impl_Peg x0_2 x13_2).f1))) = w24 at n0_ n1_ n2_ n3_ n4_ ⊢
       have HO_0 := n0_; have HO_11 := n1_; have BK214 := n2_; have HK := n3_; have HB := n4_; clear n0_ n1_ n2_ n3_ n4_; replace HO_0 := aM (rD HO_0.out); replace HO_11 := aM (rD HO_11.out); replace BK214 := aM (kD BK214.out); replace HK := aM (Kept.drew HK.out); replace HB := aM (pD HB.out); have p215 : 0 ≤ (x3_2 : Int) := dT aQ; have q215 : x3_2 < (x0_2.length : Int) := dT aQ; obtain ⟨ad215, e215, hx215_0, hx215_1⟩ := at_impl_Peg (rR HO_0.out).2.2 x3_2 p215 q215; obtain rfl : ad213 = ad215 := (by injection e215)
       replace p215 := eq_true p215; replace q215 := eq_true q215
       refine start_ (n := 6) (S := fun w' => w'.cell? ⟨gb214, 0, none⟩ = some (.int .i64 ((rd_impl_Peg x0_2 x13_2).f0)) ∧ w'.cell? ⟨gb214, 1, none⟩ = some (.int .i64 ((rd_impl_Peg x0_2 x13_2).f1)) ∧ w'.cell? (ad213.add ((x3_2).toNat * 2)) = some (.int .i64 ((rd_impl_Peg x0_2 x3_2).f0)) ∧ w'.cell? ⟨(ad213.add ((x3_2).toNat * 2)).block, (ad213.add ((x3_2).toNat * 2)).off + 1, none⟩ = some (.int .i64 ((rd_impl_Peg x0_2 x3_2).f1))) (ds := []) (bA 6 0) kR rfl kR ⟨vZ0 BK214, vZ1 BK214, hx215_0, hx215_1⟩ (fun hHeld => ?_)
       generalize w24.drew = w25 at HO_0 HO_11 BK214 HK HB hx215_0 hx215_1 hHeld ⊢
       refine pure_ (i := 1) (N := some 19) (v := ?_) (a' := ?_) (bA 6 2) rfl rfl kR (fun _ _ _ h => h) (Or.inl ⟨by rfl, ?_⟩) ?_ ?_
       rotate_left
       ·intro w'
        go_simp
        with_reducible rfl
       rotate_left
       ·simp only [Act.put, sI, sZ, sS, i64_w, i32_w]
        rfl
       refine pure_ (i := 2) (N := some 20) (v := ?_) (a' := ?_) (bA 6 6) rfl rfl kR (fun _ _ _ h => h) (Or.inl ⟨by rfl, ?_⟩) ?_ ?_
       rotate_left
       ·intro w'
        go_simp
        with_reducible rfl
       rotate_left
       ·simp only [Act.put, sI, sZ, sS, i64_w, i32_w]
        rfl
       refine pure_ (i := 3) (N := some 21) (v := ?_) (a' := ?_) (bA 6 14) rfl rfl kR (fun _ _ _ h => h) (Or.inl ⟨by rfl, ?_⟩) ?_ ?_
       rotate_left
       ·intro w'
        go_simp
        with_reducible rfl
       rotate_left
       ·simp only [Act.put, sI, sZ, sS, i64_w, i32_w]
        rfl
       refine take_ (i := 0) (N := some 18) (v := ?_) (a' := ?_) (bA 6 15) rfl rfl kR (fun _ _ _ h => h) (Or.inl ⟨by rfl, ?_⟩) hHeld ?_ ?_
       rotate_left
       ·rintro w' ⟨s0, s1, s2, s3⟩
        go_simp
        with_reducible rfl
       rotate_left
       ·simp only [Act.put, sI, sZ, sS, i64_w, i32_w]
        rfl
       refine take_ (i := 4) (N := some 22) (v := ?_) (a' := ?_) (bA 6 31) rfl rfl kR (fun _ _ _ h => h) (Or.inl ⟨by rfl, ?_⟩) hHeld ?_ ?_
       rotate_left
       ·rintro w' ⟨s0, s1, s2, s3⟩
        go_simp
        with_reducible rfl
       rotate_left
       ·simp only [Act.put, sI, sZ, sS, i64_w, i32_w]
        rfl
       refine one_ (i := 5) (N := some 23) (bA 6 63) rfl rfl kR (by decide) (fun K hK => ?_)
       refine goes_ Try.func124 kR rfl #[.agg #[.int .i64 ((rd_impl_Peg x0_2 x13_2).f0), .int .i64 ((rd_impl_Peg x0_2 x13_2).f1)], .agg #[.int .i64 ((rd_impl_Peg x0_2 x3_2).f0), .int .i64 ((rd_impl_Peg x0_2 x3_2).f1)]] (by rfl) rfl rfl sQ ?_
       with_reducible refine (spec_pgLess.calls ((rd_impl_Peg x0_2 x13_2).f0) ((rd_impl_Peg x0_2 x13_2).f1) ((rd_impl_Peg x0_2 x3_2).f0) ((rd_impl_Peg x0_2 x3_2).f1) false _ A15.out).mono ?_
       rintro e w26 ⟨rfl, hb⟩; have HS2_ := (hb.cell (wB _ _ (hHeld.2.2.1))).trans (hHeld.2.2.1); have HS3_ := (hb.cell (wB _ _ (hHeld.2.2.2))).trans (hHeld.2.2.2); refine ⟨_, rfl, ?_⟩; replace HO_0 := aM (Kd.R_below (by (with_reducible repeat (first | apply rA | apply rN | apply rD)); exact HO_0.out) hb); replace HO_11 := aM (Kd.R_below (by (with_reducible repeat (first | apply rA | apply rN | apply rD)); exact HO_11.out) hb); replace BK214 := bB BK214 hb; replace HK := aM (Kept.below (S := (fun k_ => P0_ k_)) (by repeat (first | (with_reducible first | exact HK.out | apply Kept.alloc | apply Kept.drewN | apply Kept.drew | refine Kept.setCell ?_ (.inr GW214.out) _) | exact HK.out)) hb); replace HB := tB HB hb
       (try clear hb); (try clear hb2); (try clear hk); (try clear hi)
       refine hK.out _ _ ⟨vZ0 BK214, vZ1 BK214, HS2_, HS3_⟩ (fun hHeld => ?_)
       clear hK K
       refine nU ?_
       refine done_ kR ?_
       try go_wp2
       go_roundg k2
       case measure => have := HJ2.out; have := HK2.out; omega
       case rel => exact ⟨(x3_2), (wrap64 (x13_2 + 1)), eQ, eQ, H', ⟨by have := HJ2.out; have := HK2.out; omega⟩, ⟨by (with_reducible repeat (first | apply rA | apply rN | apply rD)); exact Kd.R_mono HO_0.out (fun _ hk => hk.1)⟩, ⟨by (with_reducible repeat (first | apply rA | apply rN | apply rD)); exact Kd.R_mono HO_11.out (fun _ hk => hk.1)⟩, ⟨by repeat (first | (with_reducible first | exact HK.out | apply Kept.alloc | apply Kept.drewN | apply Kept.drew | refine Kept.setCell ?_ (.inr GW214.out) _) | exact HK.out)⟩, ⟨bE⟩⟩
     ·rw [if_neg c10] at H; have c10b0 := decide_eq_false c10; clear c10; replace H := lS H; obtain ⟨y217, Ny217, H⟩ := H; replace H := iN H; obtain ⟨c27, H⟩ := H; have c27b0 := eq_true c27; have c27b1 := dE c27; clear c27; replace H := iN H; obtain ⟨c28, H⟩ := H; have c28b0 := eq_true c28; have c28b1 := dE c28; clear c28; replace H := lS H; obtain ⟨y220, Ny220, H⟩ := H; replace H := iN H; obtain ⟨c29, H⟩ := H; have LMc29 := aM c29; clear c29; replace H := lS H; obtain ⟨y224, Ny224, H⟩ := H; have c30b0 := eq_true (dT aQ : 0 ≤ x3_2); have c31b0 := eq_true (dT aQ : x3_2 ≤ (x0_2.length : Int)); replace H := lS H; obtain ⟨y227, Ny227, H⟩ := H; replace H := iN H; obtain ⟨c32, H⟩ := H; have LMc32 := aM c32; clear c32; obtain ⟨y231, hy231⟩ : ∃ y_ : List (S_impl_Peg), y_ = (y224 ++ y227) := ⟨_, rfl⟩; rw [← hy231] at H; have Ny231 := aM hy231; clear hy231; obtain rfl := Option.some.inj H
      try go_wp2
      replace HO_0 := aM (rD HO_0.out); replace HO_11 := aM (rD HO_11.out); replace HK := aM (Kept.drew HK.out); replace HB := aM (pD HB.out); have q34 : (x3_2 : Int) ≤ ((x0_2.length : Int) : Int) := dT aQ; obtain ⟨i034, hi034, _, hsz34, _⟩ := info_parts info26; have hroom34 : x0_2.length ≤ co9 := (rR HO_0.out).2.1; have hC34 : Kd.C kd_impl_Peg _ Ao9 x0_2.length x0_2 := (rR HO_0.out).2.2; have q034 : (0 : Int) ≤ (x3_2 : Int) := dT aQ; have hcut34 := cut_from (P := Try.prog) 29 26 .i64 Try.underlying29 hi034 2 hsz34 Ao9 x0_2.length co9 x3_2 q034 q34; have hr34 := Kd.C_drop (m := (x3_2 : Int).toNat) (c := co9) hC34 (by omega) hroom34
      obtain ⟨A34, hA34⟩ : ∃ A1, A1 = (if co9 = (x3_2 : Int).toNat then Ao9 else (Ao9 : Option Addr).map (·.add ((x3_2 : Int).toNat * 2))) := ⟨_, rfl⟩; obtain ⟨c34, hc34⟩ : ∃ c1, c1 = co9 - (x3_2 : Int).toNat := ⟨_, rfl⟩; have hy34 : y220.length = x0_2.length - (x3_2 : Int).toNat := (by rw [Ny220.out, lD] <;> omega)
      rw [show (x0_2).drop (x3_2 : Int).toNat = y220 from Ny220.out.symm] at hr34; replace hr34 : Kd.C kd_impl_Peg _ A34 y220.length y220 := (by rw [hA34]; exact hr34)
      rw [← hy34, ← hA34, ← hc34] at hcut34; have HR223 := aM hr34; have HC223 := aM (show y220.length ≤ c34 from by rw [hy34, hc34]; exact Nat.sub_le_sub_right hroom34 _)
      clear hr34 hC34 hroom34 hi034 hsz34 hc34; have KY34 := aM hy34; have KA34 := aM hA34; clear hy34 hA34; have KL34 := aM (show (x3_2 : Int).toNat ≤ x0_2.length from by omega)
      replace q34 := eq_true q34; have q35 : (x3_2 : Int) ≤ ((x0_2.length : Int) : Int) := dT aQ; obtain ⟨i035, hi035, _, hsz35, _⟩ := info_parts info26; have hroom35 : x0_2.length ≤ co9 := (rR HO_0.out).2.1; have hC35 : Kd.C kd_impl_Peg _ Ao9 x0_2.length x0_2 := (rR HO_0.out).2.2; have hcut35 := cut_to (P := Try.prog) 29 26 .i64 Try.underlying29 hi035 Ao9 x0_2.length co9 x3_2 (dT aQ) q35 hroom35; have hr35 := Kd.C_take (m := (x3_2 : Int).toNat) hC35 (by omega)
      have hy35 : y227.length = (x3_2 : Int).toNat := (by rw [Ny227.out, lT]; omega)
      rw [← Ny227.out] at hr35; rw [← hy35] at hcut35; have HR230 := aM hr35; have HC230 := aM (show y227.length ≤ co9 from by omega)
      clear hr35 hC35 hroom35 hi035 hsz35; have KY35 := aM hy35; clear hy35; have KL35 := aM (show (x3_2 : Int).toNat ≤ x0_2.length from by omega)
      replace q35 := eq_true q35
      refine start_ (n := 10) (S := fun w' => True) (ds := []) (bA 10 0) kR rfl kR trivial (fun hHeld => ?_); refine with_tabW spec_pgFirst.tab10 spec_pgFirst.bits10 (fun HT_ HW_ => ?_)
      generalize wr.drew = w33 at HO_0 HO_11 HK HB HR223 HR230 hHeld ⊢
      refine pU 1 27 (bA 10 2) HT_ ?_; refine pU 2 28 (bA 10 6) HT_ ?_; refine pU 3 29 (bA 10 14) HT_ ?_; refine pU 5 31 (bA 10 46) HT_ ?_; refine pU 6 32 (bA 10 110) HT_ ?_; refine pU 7 33 (bA 10 238) HT_ ?_
      refine oU 0 26 (bA 10 239) HT_ (fun K hK => ?_)
      refine Kd.R_lit_step kd_impl_Peg _ 26 ?hg (N := 26) ?hd (xs := ([] : List (S_impl_Peg))) (inner := []) (ok := fun _ => True) (okp := fun _ => True) ?hr ?hp (fun _ hk => hk) trivial (Below.refl _ _) (Nat.le_refl _) (by simp) ?_; (case hd => rfl); (case hg => rfl); (case hr => first | (go_simp; done) | (go_simp; rfl)); (case hp => exact (Reps.none _ _))
      intro v218 w36 ho37 hb hg_ hnew_
      clear hg_ hnew_
      (first | rw [← Ny217.out] at ho37 | (simp only [Int.reduceToNat] at ho37; rw [← Ny217.out] at ho37))
      have HO219 := aM (Kd.R_lower (Kd.R_new' (Kd.R_new' (Kd.R_newM (M := fun k_ => (P0_ k_ ∨ w.heap.size ≤ k_)) ho37 (by first | exact HK.out.1 | exact (show Kept w _ (fun k_ => P0_ k_) from by repeat (first | (with_reducible first | exact HK.out | apply Kept.alloc | apply Kept.drewN | apply Kept.drew) | exact HK.out)).1) (fun k_ h_ => .inr h_)) (Kd.R_lt (by (with_reducible repeat (first | apply rA | apply rN | apply rD)); exact HO_0.out))) (Kd.R_lt (by (with_reducible repeat (first | apply rA | apply rN | apply rD)); exact HO_11.out))) (pZ bQ)); replace HO_0 := aM (Kd.R_elder' (by (with_reducible repeat (first | apply rA | apply rN | apply rD)); exact HO_0.out) (Kd.R_base ho37) hb); replace HO_11 := aM (Kd.R_elder' (by (with_reducible repeat (first | apply rA | apply rN | apply rD)); exact HO_11.out) (Kd.R_base ho37) hb); replace HR223 := aM (Kd.C_below (by repeat (first | (with_reducible exact HR223.out) | (with_reducible refine cA ?_ _) | (with_reducible refine cN ?_ _) | (with_reducible refine cD ?_) | exact HR223.out)) hb); replace HR230 := aM (Kd.C_below (by repeat (first | (with_reducible exact HR230.out) | (with_reducible refine cA ?_ _) | (with_reducible refine cN ?_ _) | (with_reducible refine cD ?_) | exact HR230.out)) hb); replace HK := aM (Kept.below (S := (fun k_ => P0_ k_)) (by repeat (first | (with_reducible first | exact HK.out | apply Kept.alloc | apply Kept.drewN | apply Kept.drew) | exact HK.out)) hb); replace HB := tB HB hb
      clear hb ho37
      refine hK.out _ _ trivial (fun hHeld => ?_)
      clear hK K
      refine nU ?_
      refine oU 4 30 (bA 10 255) HT_ (fun K hK => ?_)
      refine Kd.R_append_rows_step kd_impl_Peg (w0 := w0) w0.heap.size (by rfl) (.tmp 26) (.tmp 29) 29 26 (.agg #[(.int .i64 0), (.int .i64 0)]) 16 rfl Try.underlying29 info26 rfl (by decide) (by omega) v218 y217 y220 _ _ _ (fun k_ => (P0_ k_ ∨ w.heap.size ≤ k_) ∧ some k_ ≠ (.slice Ao9 x0_2.length co9 : Value).ownBlock ∧ some k_ ≠ (.slice Ao9 x0_2.length co9 : Value).ownBlock) (fun _ => False) rfl rfl ?aO ?aR (fun _ _ h => h) (fun _ h => h.elim) ?aF ?aB ?aS ?aL ?_
      (case aR => repeat (first | exact (by repeat (first | (with_reducible exact HR223.out) | (with_reducible refine cA ?_ _) | (with_reducible refine cN ?_ _) | (with_reducible refine cD ?_) | exact HR223.out)) | (with_reducible refine cA ?_ _) | (with_reducible refine cN ?_ _) | (with_reducible refine cD ?_)))
      (case aB => exact bQ)
      (case aF => exact (fun k_ hk => ⟨(.inr (Nat.le_trans (by first | exact HK.out.1 | exact (show Kept w _ (fun k_ => P0_ k_) from by repeat (first | (with_reducible first | exact HK.out | apply Kept.alloc | apply Kept.drewN | apply Kept.drew) | exact HK.out)).1) hk)), Kd.fresh' (Kd.R_lt (by (with_reducible repeat (first | apply rA | apply rN | apply rD)); exact HO_0.out)) k_ hk, Kd.fresh' (Kd.R_lt (by (with_reducible repeat (first | apply rA | apply rN | apply rD)); exact HO_11.out)) k_ hk⟩))
      (case aO => exact (by (with_reducible repeat (first | apply rA | apply rN | apply rD)); exact Kd.R_mono HO219.out (fun _ hk => ⟨hk.1.1.1, ⟨hk.1.2, hk.2⟩⟩)))
      (case aS => exact (pZ bQ))
      (case aL => have := LMc29.out; omega)
      intro v225 w38 ho hb hg hat
      rw [← Ny224.out] at ho; have n0_ := aM (Kd.R_after (ok := (fun k_ => (P0_ k_ ∨ w.heap.size ≤ k_))) (by (with_reducible repeat (first | apply rA | apply rN | apply rD)); exact HO_0.out) hg hat)
      have n1_ := aM (Kd.R_after (ok := (fun k_ => (P0_ k_ ∨ w.heap.size ≤ k_))) (by (with_reducible repeat (first | apply rA | apply rN | apply rD)); exact HO_11.out) hg hat)
      have n2_ := aM (hb); have n3_ := aM (Kept.of_grown (S := (fun k_ => P0_ k_)) hg (by repeat (first | (with_reducible first | exact HK.out | apply Kept.alloc | apply Kept.drewN | apply Kept.drew) | exact HK.out)) (fun k_ e_ => (HO219.out.1 k_ e_).1.1.1))
      have n4_ := aM ((show Kd.C kd_impl_Peg w38 A34 y220.length y220 from by rw [Ny220.out, KA34.out]; exact Kd.C_drop (m := (x3_2 : Int).toNat) (c := co9) ((rR (Kd.R_after (ok := (fun k_ => (P0_ k_ ∨ w.heap.size ≤ k_))) (by (with_reducible repeat (first | apply rA | apply rN | apply rD)); exact HO_0.out) hg hat)).2.2) KL34.out ((rR (Kd.R_after (ok := (fun k_ => (P0_ k_ ∨ w.heap.size ≤ k_))) (by (with_reducible repeat (first | apply rA | apply rN | apply rD)); exact HO_0.out) hg hat)).2.1)))
      have n5_ := aM ((show Kd.C kd_impl_Peg w38 Ao9 y227.length y227 from by rw [Ny227.out]; exact Kd.C_take (m := (x3_2 : Int).toNat) ((rR (Kd.R_after (ok := (fun k_ => (P0_ k_ ∨ w.heap.size ≤ k_))) (by (with_reducible repeat (first | apply rA | apply rN | apply rD)); exact HO_0.out) hg hat)).2.2) KL35.out))
      have n6_ := aM (ho); clear HO_0; clear HO_11; clear HB; clear HK; clear HR223; clear HR230; clear HO219; have HO_0 := n0_; have HO_11 := n1_; have HB := n2_; have HK := n3_; have HR223 := n4_; have HR230 := n5_; have HO226 := n6_; clear n0_ n1_ n2_ n3_ n4_ n5_ n6_; clear ho hb hg hat
      refine hK.out _ _ trivial (fun hHeld => ?_)
      clear hK K
      refine nU ?_
      refine oU 8 34 (bA 10 511) HT_ (fun K hK => ?_)
      refine Kd.R_append_rows_step kd_impl_Peg (w0 := w0) w0.heap.size (by rfl) (.tmp 30) (.tmp 33) 29 26 (.agg #[(.int .i64 0), (.int .i64 0)]) 16 rfl Try.underlying29 info26 rfl (by decide) (by omega) v225 y224 y227 _ _ _ (fun k_ => (P0_ k_ ∨ w.heap.size ≤ k_) ∧ some k_ ≠ (.slice Ao9 x0_2.length co9 : Value).ownBlock ∧ some k_ ≠ (.slice Ao9 x0_2.length co9 : Value).ownBlock) (fun _ => False) rfl rfl ?aO ?aR (fun _ _ h => h) (fun _ h => h.elim) ?aF ?aB ?aS ?aL ?_
      (case aR => repeat (first | exact (by repeat (first | (with_reducible exact HR230.out) | (with_reducible refine cA ?_ _) | (with_reducible refine cN ?_ _) | (with_reducible refine cD ?_) | exact HR230.out)) | (with_reducible refine cA ?_ _) | (with_reducible refine cN ?_ _) | (with_reducible refine cD ?_)))
      (case aB => exact bQ)
      (case aF => exact (fun k_ hk => ⟨(.inr (Nat.le_trans (by first | exact HK.out.1 | exact (show Kept w _ (fun k_ => P0_ k_) from by repeat (first | (with_reducible first | exact HK.out | apply Kept.alloc | apply Kept.drewN | apply Kept.drew) | exact HK.out)).1) hk)), Kd.fresh' (Kd.R_lt (by (with_reducible repeat (first | apply rA | apply rN | apply rD)); exact HO_0.out)) k_ hk, Kd.fresh' (Kd.R_lt (by (with_reducible repeat (first | apply rA | apply rN | apply rD)); exact HO_11.out)) k_ hk⟩))
      (case aO => exact (by (with_reducible repeat (first | apply rA | apply rN | apply rD)); exact HO226.out))
      (case aS => exact (pZ bQ))
      (case aL => have := LMc32.out; omega)
      intro v232 w39 ho hb hg hat
      rw [← Ny231.out] at ho; have n0_ := aM (Kd.R_after (ok := (fun k_ => (P0_ k_ ∨ w.heap.size ≤ k_))) (by (with_reducible repeat (first | apply rA | apply rN | apply rD)); exact HO_0.out) hg hat)
      have n1_ := aM (Kd.R_after (ok := (fun k_ => (P0_ k_ ∨ w.heap.size ≤ k_))) (by (with_reducible repeat (first | apply rA | apply rN | apply rD)); exact HO_11.out) hg hat)
      have n2_ := aM (hb); have n3_ := aM (Kept.of_grown (S := (fun k_ => P0_ k_)) hg (by repeat (first | (with_reducible first | exact HK.out | apply Kept.alloc | apply Kept.drewN | apply Kept.drew) | exact HK.out)) (fun k_ e_ => (HO226.out.1 k_ e_).1))
      have n4_ := aM ((show Kd.C kd_impl_Peg w39 A34 y220.length y220 from by rw [Ny220.out, KA34.out]; exact Kd.C_drop (m := (x3_2 : Int).toNat) (c := co9) ((rR (Kd.R_after (ok := (fun k_ => (P0_ k_ ∨ w.heap.size ≤ k_))) (by (with_reducible repeat (first | apply rA | apply rN | apply rD)); exact HO_0.out) hg hat)).2.2) KL34.out ((rR (Kd.R_after (ok := (fun k_ => (P0_ k_ ∨ w.heap.size ≤ k_))) (by (with_reducible repeat (first | apply rA | apply rN | apply rD)); exact HO_0.out) hg hat)).2.1)))
      have n5_ := aM ((show Kd.C kd_impl_Peg w39 Ao9 y227.length y227 from by rw [Ny227.out]; exact Kd.C_take (m := (x3_2 : Int).toNat) ((rR (Kd.R_after (ok := (fun k_ => (P0_ k_ ∨ w.heap.size ≤ k_))) (by (with_reducible repeat (first | apply rA | apply rN | apply rD)); exact HO_0.out) hg hat)).2.2) KL35.out))
      have n6_ := aM (ho); clear HO_0; clear HO_11; clear HB; clear HK; clear HR223; clear HR230; clear HO226; have HO_0 := n0_; have HO_11 := n1_; have HB := n2_; have HK := n3_; have HR223 := n4_; have HR230 := n5_; have HO233 := n6_; clear n0_ n1_ n2_ n3_ n4_ n5_ n6_; clear ho hb hg hat
      refine hK.out _ _ trivial (fun hHeld => ?_)
      clear hK K
      refine nU ?_
      refine pU 9 2 (bA 10 1023) HT_ ?_
      refine done_ (done_of HT_.out kR) ?_
      try go_wp2
      go_ret
      exact ⟨_, by first | rfl | (simp [errW_none, errW_some] <;> rfl) | (simp [*, errW_none, errW_some] <;> rfl), by (with_reducible repeat (first | apply rA | apply rN | apply rD)); exact Kd.R_mono HO233.out (fun _ hk => hk.1), by repeat (first | (with_reducible first | exact HB.out | apply pA | apply pN | apply pD) | exact HB.out), by repeat (first | (with_reducible first | exact HK.out | apply Kept.alloc | apply Kept.drewN | apply Kept.drew) | exact HK.out)⟩
end Go.Proofs.Ytklhakfmegbobaa.X
