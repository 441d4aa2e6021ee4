-- thin
-- short
-- compact
import Derived.Test.YtklhakfmegbobaaXA
import Derived.Test.YtklhakfmegbobaaX0
namespace Go.Proofs.Ytklhakfmegbobaa.X
open Go.RowKit Go.Proofs.Ytklhakfmegbobaa.XW Go.Proofs.YtklhakfmegbobaaW.PrintWords Go.Proofs.YtklhakfmegbobaaW.PrintLast Go.Proofs.YtklhakfmegbobaaW.PrintMore
attribute [local go_sem] max2_int min2_int max_two min_two max_three min_three max_four min_four   -- for this text's walks alone
set_option linter.unusedVariables false
set_option linter.unusedSimpArgs false

def spec_pgBack.l0 : Nat → List (S_impl_Peg) → List (S_impl_Peg) → Int → Option ((List (S_impl_Peg)))
 | 0, _, _, _ => none
 | k + 1, x0, x3, x4 => if x4 > 0 then (if 0 ≤ x4 then (if x4 < (x0.length : Int) then (if x3.length < 8796093022208 then (spec_pgBack.l0 k x0 (x3 ++ [(⟨(rd_impl_Peg x0 x4).f0, (rd_impl_Peg x0 x4).f1⟩ : S_impl_Peg)]) (wrap64 (x4 - 1))) else (none)) else (none)) else (none)) else (some x3)
def spec_pgBack.f (k : Nat) (l0 : List (S_impl_Peg)) : Option ((List (S_impl_Peg))) := if 0 < (l0.length : Int) then (spec_pgBack.l0 k l0 (([(⟨(rd_impl_Peg l0 0).f0, (rd_impl_Peg l0 0).f1⟩ : S_impl_Peg)] : List (S_impl_Peg))) (wrap64 ((l0.length : Int) - 1))) else (none)
theorem spec_pgBack.mono_l : ∀ k, (∀ y0 y1 y2, LeO (spec_pgBack.l0 k y0 y1 y2) (spec_pgBack.l0 (k + 1) y0 y1 y2))
 | 0 => fun _ _ _ r h => by simp [spec_pgBack.l0] at h
 | k + 1 => by
  have ih0 := spec_pgBack.mono_l k
  ·intro y0 y1 y2
   unfold spec_pgBack.l0
   repeat' first
   | (with_reducible exact ih0 _ _ _)
   | (with_reducible exact LeO.refl _)
   | (with_reducible exact LeO.none _)
   | (with_reducible refine LeO.ite ?_ ?_)
   | (with_reducible refine LeO.bind ?_ (fun _ => ?_))
   | exact ih0 _ _ _
   | exact LeO.none _
   | refine LeO.ite ?_ ?_
   | refine LeO.bind ?_ (fun _ => ?_)
theorem spec_pgBack.mono : ∀ a0 k, LeO (spec_pgBack.f k a0) (spec_pgBack.f (k + 1) a0) := by
 intro a0 k
 have ih0 := spec_pgBack.mono_l k
 unfold spec_pgBack.f
 repeat' first | (with_reducible exact ih0 _ _ _) | (with_reducible exact LeO.refl _) | (with_reducible exact LeO.none _) | (with_reducible refine LeO.ite ?_ ?_) | (with_reducible refine LeO.bind ?_ (fun _ => ?_)) | exact ih0 _ _ _ | exact LeO.none _ | refine LeO.ite ?_ ?_ | refine LeO.bind ?_ (fun _ => ?_)
set_option maxHeartbeats 8000000 in
set_option maxRecDepth 100000 in
theorem spec_pgBack.calls (k : Nat) (A0 : Option Addr) (c0 : Nat) (l0 : List (S_impl_Peg)) (r : List (S_impl_Peg)) (w : World) (hr0 : Kd.C kd_impl_Peg w A0 l0.length l0) (hc0 : l0.length ≤ c0) (h : spec_pgBack.f k l0 = some r) :
  Calls Try.prog 64 #[.slice A0 l0.length c0] w fun e w' => ∃ v0_ : Value, e = .returned (v0_) ∧ Kd.R kd_impl_Peg 26 w' w.heap.size (fun _ => True) v0_ r ∧ Below w.heap.size w w' := by
 have hu26 := Try.underlying26; have HR0 := aM hr0; have HC0 := aM hc0; clear hr0 hc0; have HB := aM (Below.refl w.heap.size w)
 unfold spec_pgBack.f at h; have H := h; clear h
 replace H := iN H; obtain ⟨c2, H⟩ := H; have c2b0 := dE c2; have c2b1 : decide (0 < l0.length) = true := dE (by omega)
 clear c2; obtain ⟨y200, hy200⟩ : ∃ y_ : List (S_impl_Peg), y_ = (([(⟨(rd_impl_Peg l0 0).f0, (rd_impl_Peg l0 0).f1⟩ : S_impl_Peg)] : List (S_impl_Peg))) := ⟨_, rfl⟩; rw [← hy200] at H; have Ny200 := aM hy200; clear hy200; have H' := aM H; clear H; have p199 : 0 ≤ (0 : Int) := (by omega)
 have q199 : 0 < (l0.length : Int) := dT aQ; obtain ⟨ad199, e199, hx199_0, hx199_1⟩ := at_impl_Peg HR0.out 0 p199 q199
 cases e199
 have qi199 : (0 < l0.length) = True := eq_true (by omega)
 (try rw [show ((0 : Int)).toNat = 0 from rfl] at hx199_0)
 (try rw [show 0 * 2 = 0 from rfl] at hx199_0)
 (try rw [Addr.add_zero'] at hx199_0)
 (try rw [show ((0 : Int)).toNat = 0 from rfl] at hx199_1)
 (try rw [show 0 * 2 = 0 from rfl] at hx199_1)
 (try rw [Addr.add_zero'] at hx199_1)
 replace p199 := eq_true p199; replace q199 := eq_true q199
 go_enter Try.func64, Try.ntmps64
 go_wp2_with (first | ((with_reducible refine gate_dst (N := 8) rfl ?_); refine Kd.R_lit kd_impl_Peg _ 26 ?hg (N := 8) ?hd (xs := ([(⟨(rd_impl_Peg l0 0).f0, (rd_impl_Peg l0 0).f1⟩ : S_impl_Peg)] : List (S_impl_Peg))) (inner := [.int .i64 ((rd_impl_Peg l0 0).f0), .int .i64 ((rd_impl_Peg l0 0).f1)]) (ok := fun _ => True) (okp := fun _ => True) ?hr ?hp (fun _ hk => hk) trivial (Below.refl _ _) (Nat.le_refl _) (by simp) ?_; (case hd => rfl); (case hg => rfl); (case hr => first | (go_simp; done) | (go_simp; rfl)); (case hp => exact (Reps.c2 (show Kd.M kd_impl_Peg _ _ _ (⟨(rd_impl_Peg l0 0).f0, (rd_impl_Peg l0 0).f1⟩ : S_impl_Peg) [.int .i64 ((rd_impl_Peg l0 0).f0), .int .i64 ((rd_impl_Peg l0 0).f1)] from (kd_impl_Peg_mkM _ _ _ (⟨(rd_impl_Peg l0 0).f0, (rd_impl_Peg l0 0).f1⟩ : S_impl_Peg) )) (Reps.none _ _))); intro v201 w3 ho4 hb hg_ hnew_; clear hg_ hnew_; (first | rw [← Ny200.out] at ho4 | (simp only [Int.reduceToNat] at ho4; rw [← Ny200.out] at ho4)); have HO202 := aM (Kd.R_lower ho4 (pZ bQ)); replace HB := tB HB hb; clear hb ho4))
 go_loopg [3, 4] k (fun kq v3 v4 w' => ∃ (x3_1 : List (S_impl_Peg)) (x4_1 : Int), v4 = .int .i64 x4_1 ∧ Aside0 (spec_pgBack.l0 kq l0 x3_1 x4_1 = some r) ∧ Aside0 (kq ≤ k) ∧ Aside0 (Kd.R kd_impl_Peg 26 w' w.heap.size (fun _ => True) v3 x3_1) ∧ Aside0 (Below w.heap.size w w'))
 case atStart => exact ⟨(y200), (wrap64 ((l0.length : Int) - 1)), eQ, H', ⟨Nat.le_refl _⟩, ⟨by (with_reducible repeat (first | apply rA | apply rN | apply rD)); exact HO202.out⟩, ⟨bQ⟩⟩
 case round =>
  clear H'; (try clear c2); (try clear c2b0); (try clear c2b1); (try clear hx199_0); (try clear hx199_1); (try clear p199); (try clear q199); obtain ⟨x3_1, x4_1, rfl, HA, HK1, HO_3, HB⟩ := hrel
  cases gk with
  | zero => exact absurd HA.out (by simp [spec_pgBack.l0])
  | succ k1 =>
   have H := HA.out; clear HA
   simp only [spec_pgBack.l0] at H
   by_cases c5 : x4_1 > 0
   ·rw [if_pos c5] at H; have c5b0 := dE c5; clear c5; replace H := iD H; obtain ⟨c6b0, H⟩ := H; replace H := iD H; obtain ⟨c7b0, H⟩ := H; replace H := iN H; obtain ⟨c8, H⟩ := H; have LMc8 := aM c8; clear c8; obtain ⟨y204, hy204⟩ : ∃ y_ : List (S_impl_Peg), y_ = (x3_1 ++ [(⟨(rd_impl_Peg l0 x4_1).f0, (rd_impl_Peg l0 x4_1).f1⟩ : S_impl_Peg)]) := ⟨_, rfl⟩; rw [← hy204] at H; have Ny204 := aM hy204; clear hy204; have H' := aM H; clear H; have p203 : 0 ≤ (x4_1 : Int) := dT aQ; have q203 : x4_1 < (l0.length : Int) := dT aQ; obtain ⟨ad203, e203, hx203_0, hx203_1⟩ := at_impl_Peg HR0.out x4_1 p203 q203; obtain rfl : ad199 = ad203 := (by injection e203)
    replace hx203_0 := hC HB hx203_0; replace hx203_1 := hC HB hx203_1; replace p203 := eq_true p203; replace q203 := eq_true q203
    go_wp2_with (first | ((with_reducible refine gate_builtin (b := .append) (xs := #[.tmp 16, .tmp 21]) rfl ?_); at_builtin; refine Kd.R_append kd_impl_Peg (w0 := w) w.heap.size rfl (.tmp 16) (.tmp 21) 29 26 (.agg #[(.int .i64 0), (.int .i64 0)]) 16 rfl Try.underlying29 info26 rfl (by decide) (by omega) u3 x3_1 (⟨(rd_impl_Peg l0 x4_1).f0, (rd_impl_Peg l0 x4_1).f1⟩ : S_impl_Peg) [.int .i64 ((rd_impl_Peg l0 x4_1).f0), .int .i64 ((rd_impl_Peg l0 x4_1).f1)] (fun _ => True) (fun _ => False) rfl rfl ?aP (fun _ hk => hk.elim) ?aF ?aO ?aB ?aS ?aL ?_; (case aP => exact kd_impl_Peg_mkM _ _ _ (⟨(rd_impl_Peg l0 x4_1).f0, (rd_impl_Peg l0 x4_1).f1⟩ : S_impl_Peg)); (case aB => exact bQ); (case aF => exact (fun _ _ => trivial)); (case aO => exact (by (with_reducible repeat (first | apply rA | apply rN | apply rD)); exact HO_3.out)); (case aS => exact (pZ bQ)); (case aL => have := LMc8.out; omega); intro v205 w9 ho hb hg hat; rw [← Ny204.out] at ho; have n0_ := aM (hb); have n1_ := aM (ho); clear HB; clear HO_3; have HB := n0_; have HO206 := n1_; clear n0_ n1_; clear ho hb hg hat))
    go_roundg k1
    case measure => have := HK1.out; omega
    case rel => exact ⟨(y204), (wrap64 (x4_1 - 1)), eQ, H', ⟨by have := HK1.out; omega⟩, ⟨by (with_reducible repeat (first | apply rA | apply rN | apply rD)); exact HO206.out⟩, ⟨bQ⟩⟩
   ·rw [if_neg c5] at H; have c5b0 := decide_eq_false c5; clear c5; obtain rfl := Option.some.inj H; go_wp2
    go_ret
    exact ⟨_, by first | rfl | (simp [errW_none, errW_some] <;> rfl) | (simp [*, errW_none, errW_some] <;> rfl), by (with_reducible repeat (first | apply rA | apply rN | apply rD)); exact HO_3.out, bQ⟩
def spec_pgLess.f (a0_0 : Int) (a0_1 : Int) (a1_0 : Int) (a1_1 : Int) : Option (Bool) := if a0_0 < a1_0 then (some true) else (if a0_0 = a1_0 then (some (decide (a0_1 < a1_1))) else (some false))
set_option maxHeartbeats 8000000 in
set_option maxRecDepth 100000 in
theorem spec_pgLess.calls (a0_0 : Int) (a0_1 : Int) (a1_0 : Int) (a1_1 : Int) (r : Bool) (w : World) (h : spec_pgLess.f a0_0 a0_1 a1_0 a1_1 = some r) :
  Calls Try.prog 124 #[.agg #[.int .i64 a0_0, .int .i64 a0_1], .agg #[.int .i64 a1_0, .int .i64 a1_1]] w fun e w' => e = .returned (.bool r) ∧ Below w.heap.size w w' := by
 have hu26 := Try.underlying26; have HB := aM (Below.refl w.heap.size w)
 unfold spec_pgLess.f at h; have H := h; clear h
 by_cases c3 : a0_0 < a1_0
 ·rw [if_pos c3] at H; have c3b0 := dE c3; clear c3; obtain rfl := Option.some.inj H
  go_enter Try.func124, Try.ntmps124
  go_wp2_with (first | ((with_reducible refine gate_dst (N := 2) rfl ?_); refine bV 2 (cs := #[.int .i64 a0_0, .int .i64 a0_1]) (t := 26) rfl rfl (by first | (go_simp; done) | (go_simp; rfl)) ?_; intro gb207 hg w4 hbox hb; have BK207 := hbox; have GW207 := gZ HB hg; have GE207 := gZ HB hg; replace HB := tB HB hb; clear hb hbox hg) | ((with_reducible refine gate_dst (N := 3) rfl ?_); refine bV 3 (cs := #[.int .i64 a1_0, .int .i64 a1_1]) (t := 26) rfl rfl (by first | (go_simp; done) | (go_simp; rfl)) ?_; intro gb208 hg w5 hbox hb; have BK208 := hbox; have GW208 := gZ HB hg; have GE208 := gZ HB hg; have NB207_208 := nG BK207 hg; have NB208_207 := nH BK207 hg; replace BK207 := bB BK207 hb; replace HB := tB HB hb; clear hb hbox hg; have hnb6 := NB207_208.out; have hnc6 := NB208_207.out; have hcz7_0 := vZ0 BK207; have hcz7_1 := vZ1 BK207; have hfz7_0 := kF BK207.out 0; have hfz7_1 := kF BK207.out 1; have hcz8_0 := vZ0 BK208; have hcz8_1 := vZ1 BK208; have hfz8_0 := kF BK208.out 0; have hfz8_1 := kF BK208.out 1))
  go_ret
  exact ⟨wQ, bE⟩
 ·rw [if_neg c3] at H; have c3b0 := decide_eq_false c3; clear c3
  by_cases c9 : a0_0 = a1_0
  ·rw [if_pos c9] at H; have c9b0 : (a0_0 == a1_0) = true := beq_iff_eq.mpr c9; have c9b1 : (a0_0 != a1_0) = false := bne_eq_false_iff_eq.mpr c9; clear c9; obtain rfl := Option.some.inj H
   go_enter Try.func124, Try.ntmps124
   go_wp2_with (first | ((with_reducible refine gate_dst (N := 2) rfl ?_); refine bV 2 (cs := #[.int .i64 a0_0, .int .i64 a0_1]) (t := 26) rfl rfl (by first | (go_simp; done) | (go_simp; rfl)) ?_; intro gb207 hg w10 hbox hb; have BK207 := hbox; have GW207 := gZ HB hg; have GE207 := gZ HB hg; replace HB := tB HB hb; clear hb hbox hg) | ((with_reducible refine gate_dst (N := 3) rfl ?_); refine bV 3 (cs := #[.int .i64 a1_0, .int .i64 a1_1]) (t := 26) rfl rfl (by first | (go_simp; done) | (go_simp; rfl)) ?_; intro gb208 hg w11 hbox hb; have BK208 := hbox; have GW208 := gZ HB hg; have GE208 := gZ HB hg; have NB207_208 := nG BK207 hg; have NB208_207 := nH BK207 hg; replace BK207 := bB BK207 hb; replace HB := tB HB hb; clear hb hbox hg; have hnb12 := NB207_208.out; have hnc12 := NB208_207.out; have hcz13_0 := vZ0 BK207; have hcz13_1 := vZ1 BK207; have hfz13_0 := kF BK207.out 0; have hfz13_1 := kF BK207.out 1; have hcz14_0 := vZ0 BK208; have hcz14_1 := vZ1 BK208; have hfz14_0 := kF BK208.out 0; have hfz14_1 := kF BK208.out 1))
   go_ret
   exact ⟨wQ, bE⟩
  ·rw [if_neg c9] at H; have c9b0 : (a0_0 == a1_0) = false := beq_eq_false_iff_ne.mpr c9; have c9b1 : (a0_0 != a1_0) = true := bne_iff_ne.mpr c9; obtain rfl := Option.some.inj H
   go_enter Try.func124, Try.ntmps124
   go_wp2_with (first | ((with_reducible refine gate_dst (N := 2) rfl ?_); refine bV 2 (cs := #[.int .i64 a0_0, .int .i64 a0_1]) (t := 26) rfl rfl (by first | (go_simp; done) | (go_simp; rfl)) ?_; intro gb207 hg w15 hbox hb; have BK207 := hbox; have GW207 := gZ HB hg; have GE207 := gZ HB hg; replace HB := tB HB hb; clear hb hbox hg) | ((with_reducible refine gate_dst (N := 3) rfl ?_); refine bV 3 (cs := #[.int .i64 a1_0, .int .i64 a1_1]) (t := 26) rfl rfl (by first | (go_simp; done) | (go_simp; rfl)) ?_; intro gb208 hg w16 hbox hb; have BK208 := hbox; have GW208 := gZ HB hg; have GE208 := gZ HB hg; have NB207_208 := nG BK207 hg; have NB208_207 := nH BK207 hg; replace BK207 := bB BK207 hb; replace HB := tB HB hb; clear hb hbox hg; have hnb17 := NB207_208.out; have hnc17 := NB208_207.out; have hcz18_0 := vZ0 BK207; have hcz18_1 := vZ1 BK207; have hfz18_0 := kF BK207.out 0; have hfz18_1 := kF BK207.out 1; have hcz19_0 := vZ0 BK208; have hcz19_1 := vZ1 BK208; have hfz19_0 := kF BK208.out 0; have hfz19_1 := kF BK208.out 1))
   go_ret
   exact ⟨wQ, bE⟩

end Go.Proofs.Ytklhakfmegbobaa.X
