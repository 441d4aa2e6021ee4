-- thin
-- short
-- compact
import Derived.Test.YtklhakfmegbobaaXA
import Derived.Test.YtklhakfmegbobaaX0
namespace Go.Proofs.Ytklhakfmegbobaa.X
open Go.RowKit Go.Proofs.Ytklhakfmegbobaa.XW Go.Proofs.YtklhakfmegbobaaW.PrintWords Go.Proofs.YtklhakfmegbobaaW.PrintLast Go.Proofs.YtklhakfmegbobaaW.PrintMore
attribute [local go_sem] max2_int min2_int max_two min_two max_three min_three max_four min_four   -- for this text's walks alone
set_option linter.unusedVariables false
set_option linter.unusedSimpArgs false

def laws_markPegS.l0 : Nat → List (S_impl_Peg) → Int → Int → Option (Int × (List (S_impl_Peg)))
 | 0, _, _, _ => none
 | k + 1, x0, x1, x5 => if x5 < (x0.length : Int) then (if 0 ≤ x5 then ((some (x0.set (x5 : Int).toNat (⟨x1, (rd_impl_Peg x0 x5).f1⟩ : S_impl_Peg) : List (S_impl_Peg))).bind fun y116 => (laws_markPegS.l0 k (y116.set (x5 : Int).toNat (⟨(rd_impl_Peg y116 x5).f0, wrap64 (x1 + 1)⟩ : S_impl_Peg)) (wrap64 ((wrap64 (x1 + 1)) + 1)) (wrap64 (x5 + 1)))) else (none)) else (some (x1, x0))
def laws_markPegS.f (k : Nat) (l0 : List (S_impl_Peg)) (a1 : Int) : Option (Int × (List (S_impl_Peg))) := laws_markPegS.l0 k l0 a1 0
theorem laws_markPegS.mono_l : ∀ k, (∀ y0 y1 y2, LeO (laws_markPegS.l0 k y0 y1 y2) (laws_markPegS.l0 (k + 1) y0 y1 y2))
 | 0 => fun _ _ _ r h => by simp [laws_markPegS.l0] at h
 | k + 1 => by
  have ih0 := laws_markPegS.mono_l k
  ·intro y0 y1 y2
   unfold laws_markPegS.l0
   repeat' first
   | (with_reducible exact ih0 _ _ _)
   | (with_reducible exact LeO.refl _)
   | (with_reducible exact LeO.none _)
   | (with_reducible refine LeO.ite ?_ ?_)
   | (with_reducible refine LeO.bind ?_ (fun _ => ?_))
   | exact ih0 _ _ _
   | exact LeO.none _
   | refine LeO.ite ?_ ?_
   | refine LeO.bind ?_ (fun _ => ?_)
theorem laws_markPegS.mono : ∀ a0 a1 k, LeO (laws_markPegS.f k a0 a1) (laws_markPegS.f (k + 1) a0 a1) := by
 intro a0 a1 k
 have ih0 := laws_markPegS.mono_l k
 unfold laws_markPegS.f
 repeat' first | (with_reducible exact ih0 _ _ _) | (with_reducible exact LeO.refl _) | (with_reducible exact LeO.none _) | (with_reducible refine LeO.ite ?_ ?_) | (with_reducible refine LeO.bind ?_ (fun _ => ?_)) | exact ih0 _ _ _ | exact LeO.none _ | refine LeO.ite ?_ ?_ | refine LeO.bind ?_ (fun _ => ?_)
set_option maxHeartbeats 8000000 in
set_option maxRecDepth 100000 in
theorem laws_markPegS.calls (k : Nat) (P0_ : Nat → Prop) (u9000_ : Value) (l0 : List (S_impl_Peg)) (a1 : Int) (r1 : Int) (r2 : List (S_impl_Peg)) (w0 w : World) (hB : Below w0.heap.size w0 w) (ho0 : Kd.R kd_impl_Peg 26 w w0.heap.size P0_ u9000_ l0) (h : laws_markPegS.f k l0 a1 = some (r1, r2)) :
  Calls Try.prog 25 #[u9000_, .int .i64 a1] w fun e w' => e = .returned (.int .i64 r1) ∧ Kd.R kd_impl_Peg 26 w' w0.heap.size (fun k_ => (P0_ k_ ∨ w.heap.size ≤ k_)) u9000_ r2 ∧ Below w0.heap.size w0 w' ∧ Kept w w' (fun k_ => P0_ k_) := by
 have HO0 := aM (show Kd.R kd_impl_Peg 26 w w0.heap.size (fun k_ => (P0_ k_ ∨ w.heap.size ≤ k_)) u9000_ l0 from Kd.R_mono ho0 (fun k_ hk => (.inl hk))); have HK := aM (Kept.refl w (fun k_ => P0_ k_)); have HW0 := aM hB.size; have HB := aM hB; clear hB
 unfold laws_markPegS.f at h; have H := h; clear h
 have H' := aM H; clear H
 go_enter Try.func25, Try.ntmps25
 go_wp2
 go_loopg [1, 5] k (fun kq v1 v5 w' => ∃ (x0_1 : List (S_impl_Peg)) (x1_1 : Int) (x5_1 : Int), v1 = .int .i64 x1_1 ∧ v5 = .int .i64 x5_1 ∧ Aside0 (laws_markPegS.l0 kq x0_1 x1_1 x5_1 = some (r1, r2)) ∧ Aside0 (kq ≤ k) ∧ Aside0 (Kd.R kd_impl_Peg 26 w' w0.heap.size (fun k_ => (P0_ k_ ∨ w.heap.size ≤ k_)) u9000_ x0_1) ∧ Aside0 (Kept w w' (fun k_ => P0_ k_)) ∧ Aside0 (Below w0.heap.size w0 w'))
 case atStart => exact ⟨(l0), (a1), (0), eQ, eQ, H', ⟨Nat.le_refl _⟩, ⟨by (with_reducible repeat (first | apply rA | apply rN | apply rD)); exact HO0.out⟩, ⟨by repeat (first | (with_reducible first | exact HK.out | apply Kept.alloc | apply Kept.drewN | apply Kept.drew) | exact HK.out)⟩, ⟨bQ⟩⟩
 case round =>
  clear H'; obtain ⟨x0_1, x1_1, x5_1, rfl, rfl, HA, HK1, HO_0, HK, HB⟩ := hrel
  cases gk with
  | zero => exact absurd HA.out (by simp [laws_markPegS.l0])
  | succ k1 =>
   have H := HA.out; clear HA
   simp only [laws_markPegS.l0] at H
   by_cases c3 : x5_1 < (x0_1.length : Int)
   ·rw [if_pos c3] at H; have c3b0 := dE c3; clear c3; replace H := iD H; obtain ⟨c4b0, H⟩ := H; replace H := lS H; obtain ⟨y116, Ny116, H⟩ := H; obtain ⟨y117, hy117⟩ : ∃ y_ : List (S_impl_Peg), y_ = (y116.set (x5_1 : Int).toNat (⟨(rd_impl_Peg y116 x5_1).f0, wrap64 (x1_1 + 1)⟩ : S_impl_Peg)) := ⟨_, rfl⟩; rw [← hy117] at H; have Ny117 := aM hy117; clear hy117; have H' := aM H; clear H; obtain ⟨Ao7, co7, eo7⟩ := Kd.R_slice HO_0.out; subst eo7; have p5 : 0 ≤ (x5_1 : Int) := dT aQ; have q5 : (x5_1 : Int) < ((x0_1.length : Int) : Int) := dT aQ; obtain ⟨go5, co5, eo5, gb5, gl5, cl5, HG5⟩ := Kd.R_form HO_0.out (by omega)
    (first | cases eo5 | (injection eo5 with ea_ en_ ec_; (first | subst ea_ | (injection ea_ with ea_; subst ea_)); subst ec_; clear en_))
    have GB5 := aM gb5; have GG5 := aM HG5; clear gb5 gl5 HG5; have HMgo5 := aM (show (P0_ go5 ∨ w.heap.size ≤ go5) from (HO_0.out.1 _ rfl)); obtain ⟨ce5, hcl5, hM5, hcc5, hfr5⟩ := Kd.R_elem HO_0.out z_impl_Peg (x5_1 : Int) p5 q5; obtain rfl := kd_impl_Peg_openM hM5; have hx5_0 : wr.cell? ⟨go5, (x5_1 : Int).toNat * 2, none⟩ = some (.int .i64 ((rd_impl_Peg x0_1 x5_1).f0)) := hcc5 0 _ rfl; have hx5_1 : wr.cell? ⟨go5, (x5_1 : Int).toNat * 2 + 1, none⟩ = some (.int .i64 ((rd_impl_Peg x0_1 x5_1).f1)) := hcc5 1 _ rfl; have hf5_0 : wr.frozen? ⟨go5, (x5_1 : Int).toNat * 2, none⟩ = false := hfr5 0; have hf5_1 : wr.frozen? ⟨go5, (x5_1 : Int).toNat * 2 + 1, none⟩ = false := hfr5 1; clear hcl5 hcc5 hfr5 hM5; replace p5 := eq_true p5; replace q5 := eq_true q5; have HX8 := aM (show Kd.R kd_impl_Peg 26 wr w0.heap.size (fun k_ => (P0_ k_ ∨ w.heap.size ≤ k_)) (.slice (some ⟨go5, 0, none⟩) x0_1.length co7) x0_1 from (by (with_reducible repeat (first | apply rA | apply rN | apply rD)); exact HO_0.out))
    obtain ⟨ce8, hcl8, hM8, hcc8, hfr8⟩ := Kd.R_elem HX8.out z_impl_Peg (x5_1 : Int) (dT aQ) (by have h_ : (x5_1 : Int) < ((x0_1.length : Int) : Int) := dT aQ; first | exact h_ | (have e_ := (rR HO_0.out).1; omega) | simpa using h_)
    obtain rfl := kd_impl_Peg_openM hM8; have HP8 := Kd.R_seg HX8.out (x5_1 : Int) (dT aQ) (by have h_ : (x5_1 : Int) < ((x0_1.length : Int) : Int) := dT aQ; first | exact h_ | (have e_ := (rR HO_0.out).1; omega) | simpa using h_) (seg := [.int .i64 x1_1]) (j := 0) hcl8 hcc8 (show 1 ≤ 2 from by decide) (x' := (⟨x1_1, (rd_impl_Peg x0_1 x5_1).f1⟩ : S_impl_Peg)) (kd_impl_Peg_mkM _ _ _ (⟨x1_1, (rd_impl_Peg x0_1 x5_1).f1⟩ : S_impl_Peg) ) (fun _ hk => hk)
    have hx8_0 := hcc8 0 _ rfl
    (try simp only [show (kd_impl_Peg).sz = 2 from rfl, Nat.mul_one, Nat.add_zero] at hx8_0)
    have hf8_0 := hfr8 0
    (try simp only [show (kd_impl_Peg).sz = 2 from rfl, Nat.mul_one, Nat.add_zero] at hf8_0)
    clear hcl8 hcc8 hfr8 hM8
    go_wp2_with (first | ((with_reducible refine gate_store (t := 3) (p := 16) rfl ?_); refine store_event (t := 3) (p := 16) (v := ?vo_w9) (w1 := (wr.setCell ⟨go5, (x5_1 : Int).toNat * 2, none⟩ (.int .i64 x1_1))) ?hg ?ho ?hn ?hr ?_; (case ho => rfl); (case hg => rfl); (case hn => rfl); (case hr => first | (go_simp; done) | (go_simp; rfl)); intro w9 hw; have hg : wr.grownBy w9 (some go5) := (by rw [hw]; exact HP8.2); have hp_ : Kd.R kd_impl_Peg 26 w9 w0.heap.size (fun k_ => (P0_ k_ ∨ w.heap.size ≤ k_)) (.slice (some ⟨go5, 0, none⟩) x0_1.length co7) y116 := (by rw [hw, Ny116.out]; exact HP8.1); clear HP8; replace HB := aM ((by rw [hw]; exact pS (HB.out) GB5.out : Below w0.heap.size w0 w9)); replace HK := aM (Kept.of_grown (S := (fun k_ => P0_ k_)) hg (by repeat (first | (with_reducible first | exact HK.out | apply Kept.alloc | apply Kept.drewN | apply Kept.drew) | exact HK.out)) (fun k_ e_ => (HO_0.out.1 k_ e_))); replace HO_0 := aM (hp_); clear hg hw hp_; have p6 : 0 ≤ (x5_1 : Int) := dT aQ; have q6 : (x5_1 : Int) < ((x0_1.length : Int) : Int) := dT aQ; obtain ⟨ce6, hcl6, hM6, hcc6, hfr6⟩ := Kd.R_elem HO_0.out z_impl_Peg (x5_1 : Int) p6 q6; obtain rfl := kd_impl_Peg_openM hM6; have hx6_0 : w9.cell? ⟨go5, (x5_1 : Int).toNat * 2, none⟩ = some (.int .i64 ((rd_impl_Peg y116 x5_1).f0)) := hcc6 0 _ rfl; have hx6_1 : w9.cell? ⟨go5, (x5_1 : Int).toNat * 2 + 1, none⟩ = some (.int .i64 ((rd_impl_Peg y116 x5_1).f1)) := hcc6 1 _ rfl; have hf6_0 : w9.frozen? ⟨go5, (x5_1 : Int).toNat * 2, none⟩ = false := hfr6 0; have hf6_1 : w9.frozen? ⟨go5, (x5_1 : Int).toNat * 2 + 1, none⟩ = false := hfr6 1; clear hcl6 hcc6 hfr6 hM6; replace p6 := eq_true p6; replace q6 := eq_true q6; have HX10 := aM (show Kd.R kd_impl_Peg 26 w9 w0.heap.size (fun k_ => (P0_ k_ ∨ w.heap.size ≤ k_)) (.slice (some ⟨go5, 0, none⟩) x0_1.length co7) y116 from (by (with_reducible repeat (first | apply rA | apply rN | apply rD)); exact HO_0.out)); obtain ⟨ce10, hcl10, hM10, hcc10, hfr10⟩ := Kd.R_elem HX10.out z_impl_Peg (x5_1 : Int) (dT aQ) (by have h_ : (x5_1 : Int) < ((x0_1.length : Int) : Int) := dT aQ; first | exact h_ | (have e_ := (rR HO_0.out).1; omega) | simpa using h_); obtain rfl := kd_impl_Peg_openM hM10; have HP10 := Kd.R_seg HX10.out (x5_1 : Int) (dT aQ) (by have h_ : (x5_1 : Int) < ((x0_1.length : Int) : Int) := dT aQ; first | exact h_ | (have e_ := (rR HO_0.out).1; omega) | simpa using h_) (seg := [.int .i64 (wrap64 (x1_1 + 1))]) (j := 1) hcl10 hcc10 (show 2 ≤ 2 from by decide) (x' := (⟨(rd_impl_Peg y116 x5_1).f0, wrap64 (x1_1 + 1)⟩ : S_impl_Peg)) (kd_impl_Peg_mkM _ _ _ (⟨(rd_impl_Peg y116 x5_1).f0, wrap64 (x1_1 + 1)⟩ : S_impl_Peg) ) (fun _ hk => hk); have hx10_1 := hcc10 1 _ rfl; (try simp only [show (kd_impl_Peg).sz = 2 from rfl, Nat.mul_one, Nat.add_zero] at hx10_1); have hf10_1 := hfr10 1; (try simp only [show (kd_impl_Peg).sz = 2 from rfl, Nat.mul_one, Nat.add_zero] at hf10_1); clear hcl10 hcc10 hfr10 hM10) | ((with_reducible refine gate_store (t := 3) (p := 23) rfl ?_); refine store_event (t := 3) (p := 23) (v := ?vo_w11) (w1 := (w9.setCell ⟨go5, (x5_1 : Int).toNat * 2 + 1, none⟩ (.int .i64 (wrap64 (x1_1 + 1))))) ?hg ?ho ?hn ?hr ?_; (case ho => rfl); (case hg => rfl); (case hn => rfl); (case hr => first | (go_simp; done) | (go_simp; rfl)); intro w11 hw; have hg : w9.grownBy w11 (some go5) := (by rw [hw]; exact HP10.2); have hp_ : Kd.R kd_impl_Peg 26 w11 w0.heap.size (fun k_ => (P0_ k_ ∨ w.heap.size ≤ k_)) (.slice (some ⟨go5, 0, none⟩) x0_1.length co7) y117 := (by rw [hw, Ny117.out]; exact HP10.1); clear HP10; replace HB := aM ((by rw [hw]; exact pS (HB.out) GB5.out : Below w0.heap.size w0 w11)); replace HK := aM (Kept.of_grown (S := (fun k_ => P0_ k_)) hg (by repeat (first | (with_reducible first | exact HK.out | apply Kept.alloc | apply Kept.drewN | apply Kept.drew) | exact HK.out)) (fun k_ e_ => (HO_0.out.1 k_ e_))); replace HO_0 := aM (hp_); clear hg hw hp_))
    go_roundg k1
    case measure => have := HK1.out; omega
    case rel => exact ⟨(y117), (wrap64 ((wrap64 (x1_1 + 1)) + 1)), (wrap64 (x5_1 + 1)), eQ, eQ, H', ⟨by have := HK1.out; omega⟩, ⟨by (with_reducible repeat (first | apply rA | apply rN | apply rD)); exact HO_0.out⟩, ⟨by repeat (first | (with_reducible first | exact HK.out | apply Kept.alloc | apply Kept.drewN | apply Kept.drew) | exact HK.out)⟩, ⟨bQ⟩⟩
   ·rw [if_neg c3] at H; have c3b0 := decide_eq_false c3; clear c3
    simp only [Option.some.injEq, Prod.mk.injEq] at H
    obtain ⟨rfl, rfl⟩ := H; obtain ⟨Ao12, co12, eo12⟩ := Kd.R_slice HO_0.out; subst eo12; go_wp2
    go_ret
    exact ⟨wQ, by (with_reducible repeat (first | apply rA | apply rN | apply rD)); exact HO_0.out, by repeat (first | (with_reducible first | exact HB.out | apply pA | apply pN | apply pD) | exact HB.out), by repeat (first | (with_reducible first | exact HK.out | apply Kept.alloc | apply Kept.drewN | apply Kept.drew) | exact HK.out)⟩

def laws_heldPegS.l0 : Nat → List (S_impl_Peg) → Int → Int → Option (Int)
 | 0, _, _, _ => none
 | k + 1, x0, x1, x5 => if x5 < (x0.length : Int) then (if 0 ≤ x5 then (if ((rd_impl_Peg x0 x5).f0) = x1 then (if ((rd_impl_Peg x0 x5).f1) = (wrap64 (x1 + 1)) then (laws_heldPegS.l0 k x0 (wrap64 ((wrap64 (x1 + 1)) + 1)) (wrap64 (x5 + 1))) else (some (-1))) else (some (-1))) else (none)) else (some x1)
def laws_heldPegS.f (k : Nat) (l0 : List (S_impl_Peg)) (a1 : Int) : Option (Int) := laws_heldPegS.l0 k l0 a1 0
theorem laws_heldPegS.mono_l : ∀ k, (∀ y0 y1 y2, LeO (laws_heldPegS.l0 k y0 y1 y2) (laws_heldPegS.l0 (k + 1) y0 y1 y2))
 | 0 => fun _ _ _ r h => by simp [laws_heldPegS.l0] at h
 | k + 1 => by
  have ih0 := laws_heldPegS.mono_l k
  ·intro y0 y1 y2
   unfold laws_heldPegS.l0
   repeat' first
   | (with_reducible exact ih0 _ _ _)
   | (with_reducible exact LeO.refl _)
   | (with_reducible exact LeO.none _)
   | (with_reducible refine LeO.ite ?_ ?_)
   | (with_reducible refine LeO.bind ?_ (fun _ => ?_))
   | exact ih0 _ _ _
   | exact LeO.none _
   | refine LeO.ite ?_ ?_
   | refine LeO.bind ?_ (fun _ => ?_)
theorem laws_heldPegS.mono : ∀ a0 a1 k, LeO (laws_heldPegS.f k a0 a1) (laws_heldPegS.f (k + 1) a0 a1) := by
 intro a0 a1 k
 have ih0 := laws_heldPegS.mono_l k
 unfold laws_heldPegS.f
 repeat' first | (with_reducible exact ih0 _ _ _) | (with_reducible exact LeO.refl _) | (with_reducible exact LeO.none _) | (with_reducible refine LeO.ite ?_ ?_) | (with_reducible refine LeO.bind ?_ (fun _ => ?_)) | exact ih0 _ _ _ | exact LeO.none _ | refine LeO.ite ?_ ?_ | refine LeO.bind ?_ (fun _ => ?_)
set_option maxHeartbeats 8000000 in
set_option maxRecDepth 100000 in
theorem laws_heldPegS.calls (k : Nat) (A0 : Option Addr) (c0 : Nat) (l0 : List (S_impl_Peg)) (a1 : Int) (r : Int) (w : World) (hr0 : Kd.C kd_impl_Peg w A0 l0.length l0) (hc0 : l0.length ≤ c0) (h : laws_heldPegS.f k l0 a1 = some r) :
  Calls Try.prog 26 #[.slice A0 l0.length c0, .int .i64 a1] w fun e w' => e = .returned (.int .i64 r) ∧ Drawn0 w w' := by
 have HR0 := aM hr0; have HC0 := aM hc0; clear hr0 hc0
 unfold laws_heldPegS.f at h; have H := h; clear h
 have H' := aM H; clear H
 go_enter Try.func26, Try.ntmps26
 go_wp2
 go_loopg [1, 5] k (fun kq v1 v5 w' => ∃ (x1_1 : Int) (x5_1 : Int), v1 = .int .i64 x1_1 ∧ v5 = .int .i64 x5_1 ∧ Aside0 (laws_heldPegS.l0 kq l0 x1_1 x5_1 = some r) ∧ Aside0 (kq ≤ k) ∧ Drawn0 w w')
 case atStart => exact ⟨(a1), (0), eQ, eQ, H', ⟨Nat.le_refl _⟩, dQ⟩
 case round =>
  clear H'; obtain ⟨x1_1, x5_1, rfl, rfl, HA, HK1, ⟨m1, rfl⟩⟩ := hrel
  cases gk with
  | zero => exact absurd HA.out (by simp [laws_heldPegS.l0])
  | succ k1 =>
   have H := HA.out; clear HA
   simp only [laws_heldPegS.l0] at H
   by_cases c3 : x5_1 < (l0.length : Int)
   ·rw [if_pos c3] at H; have c3b0 := dE c3; clear c3; replace H := iD H; obtain ⟨c4b0, H⟩ := H
    by_cases c5 : ((rd_impl_Peg l0 x5_1).f0) = x1_1
    ·rw [if_pos c5] at H; have c5b0 : (((rd_impl_Peg l0 x5_1).f0) == x1_1) = true := beq_iff_eq.mpr c5; have c5b1 : (((rd_impl_Peg l0 x5_1).f0) != x1_1) = false := bne_eq_false_iff_eq.mpr c5; clear c5
     by_cases c6 : ((rd_impl_Peg l0 x5_1).f1) = (wrap64 (x1_1 + 1))
     ·rw [if_pos c6] at H; have c6b0 : (((rd_impl_Peg l0 x5_1).f1) == (wrap64 (x1_1 + 1))) = true := beq_iff_eq.mpr c6; have c6b1 : (((rd_impl_Peg l0 x5_1).f1) != (wrap64 (x1_1 + 1))) = false := bne_eq_false_iff_eq.mpr c6; clear c6; have H' := aM H; clear H; have p118 : 0 ≤ (x5_1 : Int) := dT aQ; have q118 : x5_1 < (l0.length : Int) := dT aQ; obtain ⟨ad118, e118, hx118_0, hx118_1⟩ := at_impl_Peg HR0.out x5_1 p118 q118
      cases e118
      replace p118 := eq_true p118; replace q118 := eq_true q118; have p119 : 0 ≤ (x5_1 : Int) := dT aQ; have q119 : x5_1 < (l0.length : Int) := dT aQ; obtain ⟨ad119, e119, hx119_0, hx119_1⟩ := at_impl_Peg HR0.out x5_1 p119 q119; obtain rfl : ad118 = ad119 := (by injection e119)
      replace p119 := eq_true p119; replace q119 := eq_true q119; go_wp2
      go_roundg k1
      case measure => have := HK1.out; omega
      case rel => exact ⟨(wrap64 ((wrap64 (x1_1 + 1)) + 1)), (wrap64 (x5_1 + 1)), eQ, eQ, H', ⟨by have := HK1.out; omega⟩, dQ⟩
     ·rw [if_neg c6] at H; have c6b0 : (((rd_impl_Peg l0 x5_1).f1) == (wrap64 (x1_1 + 1))) = false := beq_eq_false_iff_ne.mpr c6; have c6b1 : (((rd_impl_Peg l0 x5_1).f1) != (wrap64 (x1_1 + 1))) = true := bne_iff_ne.mpr c6; obtain rfl := Option.some.inj H; have p118 : 0 ≤ (x5_1 : Int) := dT aQ; have q118 : x5_1 < (l0.length : Int) := dT aQ; obtain ⟨ad118, e118, hx118_0, hx118_1⟩ := at_impl_Peg HR0.out x5_1 p118 q118
      cases e118
      replace p118 := eq_true p118; replace q118 := eq_true q118; have p119 : 0 ≤ (x5_1 : Int) := dT aQ; have q119 : x5_1 < (l0.length : Int) := dT aQ; obtain ⟨ad119, e119, hx119_0, hx119_1⟩ := at_impl_Peg HR0.out x5_1 p119 q119; obtain rfl : ad118 = ad119 := (by injection e119)
      replace p119 := eq_true p119; replace q119 := eq_true q119; go_wp2
      go_ret
      exact ⟨eQ, dQ⟩
    ·rw [if_neg c5] at H; have c5b0 : (((rd_impl_Peg l0 x5_1).f0) == x1_1) = false := beq_eq_false_iff_ne.mpr c5; have c5b1 : (((rd_impl_Peg l0 x5_1).f0) != x1_1) = true := bne_iff_ne.mpr c5; obtain rfl := Option.some.inj H; have p118 : 0 ≤ (x5_1 : Int) := dT aQ; have q118 : x5_1 < (l0.length : Int) := dT aQ; obtain ⟨ad118, e118, hx118_0, hx118_1⟩ := at_impl_Peg HR0.out x5_1 p118 q118
     cases e118
     replace p118 := eq_true p118; replace q118 := eq_true q118; go_wp2
     go_ret
     exact ⟨eQ, dQ⟩
   ·rw [if_neg c3] at H; have c3b0 := decide_eq_false c3; clear c3; obtain rfl := Option.some.inj H; go_wp2
    go_ret
    exact ⟨eQ, dQ⟩

def spec_l1In.f (a0 : Int) (a1 : Int) (a2 : Int) : Option (Bool) := if a0 ≥ a1 then (some (decide (a0 ≤ a2))) else (some false)
set_option maxHeartbeats 8000000 in
set_option maxRecDepth 100000 in
theorem spec_l1In.calls (a0 : Int) (a1 : Int) (a2 : Int) (r : Bool) (w : World) (h : spec_l1In.f a0 a1 a2 = some r) :
  Calls Try.prog 79 #[.int .i64 a0, .int .i64 a1, .int .i64 a2] w fun e w' => e = .returned (.bool r) ∧ Drawn0 w w' := by
 unfold spec_l1In.f at h; have H := h; clear h
 by_cases c4 : a0 ≥ a1
 ·rw [if_pos c4] at H; have c4b0 := dE c4; clear c4; obtain rfl := Option.some.inj H
  go_enter Try.func79, Try.ntmps79
  go_wp2
  go_ret
  exact ⟨eQ, dQ⟩
 ·rw [if_neg c4] at H; have c4b0 := decide_eq_false c4; clear c4; obtain rfl := Option.some.inj H
  go_enter Try.func79, Try.ntmps79
  go_wp2
  go_ret
  exact ⟨eQ, dQ⟩

def spec_pgIs.f (a0_0 : Int) (a0_1 : Int) : Option (Bool) := (spec_l1In.f a0_0 (-40) 40).bind fun t121 => (if t121 = true then ((spec_l1In.f a0_1 (-40) 40).bind fun t122 => (some t122)) else (some false))
set_option maxHeartbeats 8000000 in
set_option maxRecDepth 100000 in
theorem spec_pgIs.calls (a0_0 : Int) (a0_1 : Int) (r : Bool) (w : World) (h : spec_pgIs.f a0_0 a0_1 = some r) :
  Calls Try.prog 57 #[.agg #[.int .i64 a0_0, .int .i64 a0_1]] w fun e w' => e = .returned (.bool r) ∧ Below w.heap.size w w' := by
 have hu26 := Try.underlying26; have HB := aM (Below.refl w.heap.size w)
 unfold spec_pgIs.f at h; have H := h; clear h
 replace H := bS H; obtain ⟨t121, A2, H⟩ := H
 by_cases c3 : t121 = true
 ·subst c3; replace H := iT H; replace H := bS H; obtain ⟨t122, A4, H⟩ := H; obtain rfl := Option.some.inj H
  go_enter Try.func57, Try.ntmps57
  go_wp2_with (first | ((with_reducible refine gate_dst (N := 1) rfl ?_); refine bV 1 (cs := #[.int .i64 a0_0, .int .i64 a0_1]) (t := 26) rfl rfl (by first | (go_simp; done) | (go_simp; rfl)) ?_; intro gb120 hg w5 hbox hb; have BK120 := hbox; have GW120 := gZ HB hg; have GE120 := gZ HB hg; replace HB := tB HB hb; clear hb hbox hg; have hcz6_0 := vZ0 BK120; have hcz6_1 := vZ1 BK120; have hfz6_0 := kF BK120.out 0; have hfz6_1 := kF BK120.out 1) | ((with_reducible refine gC (f := 79) rfl ?_); refine goesL_ (some 5) rfl rfl Try.func79 kR rfl #[.int .i64 a0_0, .int .i64 (-40), .int .i64 40] rfl sQ ?_; (with_reducible refine (spec_l1In.calls a0_0 (-40) 40 true _ A2.out).mono ?_); rintro e w' ⟨rfl, ⟨nd, rfl⟩⟩; refine ⟨_, rfl, ?_⟩) | (go_at_call 79; (with_reducible refine (spec_l1In.calls a0_1 (-40) 40 t122 _ A4.out).mono ?_); rintro e w' ⟨rfl, ⟨nd, rfl⟩⟩))
  go_ret
  exact ⟨wQ, bE⟩
 ·replace c3 := Bool.eq_false_iff.mpr c3; subst c3; replace H := iF H; obtain rfl := Option.some.inj H
  go_enter Try.func57, Try.ntmps57
  go_wp2_with (first | ((with_reducible refine gate_dst (N := 1) rfl ?_); refine bV 1 (cs := #[.int .i64 a0_0, .int .i64 a0_1]) (t := 26) rfl rfl (by first | (go_simp; done) | (go_simp; rfl)) ?_; intro gb120 hg w7 hbox hb; have BK120 := hbox; have GW120 := gZ HB hg; have GE120 := gZ HB hg; replace HB := tB HB hb; clear hb hbox hg; have hcz8_0 := vZ0 BK120; have hcz8_1 := vZ1 BK120; have hfz8_0 := kF BK120.out 0; have hfz8_1 := kF BK120.out 1) | ((with_reducible refine gC (f := 79) rfl ?_); refine goesL_ (some 5) rfl rfl Try.func79 kR rfl #[.int .i64 a0_0, .int .i64 (-40), .int .i64 40] rfl sQ ?_; (with_reducible refine (spec_l1In.calls a0_0 (-40) 40 false _ A2.out).mono ?_); rintro e w' ⟨rfl, ⟨nd, rfl⟩⟩; refine ⟨_, rfl, ?_⟩))
  go_ret
  exact ⟨wQ, bE⟩

def spec_pgTurn.f (a0_0 : Int) (a0_1 : Int) (a1_0 : Int) (a1_1 : Int) (a2_0 : Int) (a2_1 : Int) : Option (Int) := some (wrap64 ((wrap64 ((wrap64 (a1_0 - a0_0)) * (wrap64 (a2_1 - a0_1)))) - (wrap64 ((wrap64 (a1_1 - a0_1)) * (wrap64 (a2_0 - a0_0))))))
set_option maxHeartbeats 8000000 in
set_option maxRecDepth 100000 in
theorem spec_pgTurn.calls (a0_0 : Int) (a0_1 : Int) (a1_0 : Int) (a1_1 : Int) (a2_0 : Int) (a2_1 : Int) (r : Int) (w : World) (h : spec_pgTurn.f a0_0 a0_1 a1_0 a1_1 a2_0 a2_1 = some r) :
  Calls Try.prog 106 #[.agg #[.int .i64 a0_0, .int .i64 a0_1], .agg #[.int .i64 a1_0, .int .i64 a1_1], .agg #[.int .i64 a2_0, .int .i64 a2_1]] w fun e w' => e = .returned (.int .i64 r) ∧ Below w.heap.size w w' := by
 have hu26 := Try.underlying26; have HB := aM (Below.refl w.heap.size w)
 unfold spec_pgTurn.f at h; have H := h; clear h
 obtain rfl := Option.some.inj H
 go_enter Try.func106, Try.ntmps106
 go_wp2_with (first | ((with_reducible refine gate_dst (N := 3) rfl ?_); refine bV 3 (cs := #[.int .i64 a0_0, .int .i64 a0_1]) (t := 26) rfl rfl (by first | (go_simp; done) | (go_simp; rfl)) ?_; intro gb123 hg w4 hbox hb; have BK123 := hbox; have GW123 := gZ HB hg; have GE123 := gZ HB hg; replace HB := tB HB hb; clear hb hbox hg) | ((with_reducible refine gate_dst (N := 4) rfl ?_); refine bV 4 (cs := #[.int .i64 a1_0, .int .i64 a1_1]) (t := 26) rfl rfl (by first | (go_simp; done) | (go_simp; rfl)) ?_; intro gb124 hg w5 hbox hb; have BK124 := hbox; have GW124 := gZ HB hg; have GE124 := gZ HB hg; have NB123_124 := nG BK123 hg; have NB124_123 := nH BK123 hg; replace BK123 := bB BK123 hb; replace HB := tB HB hb; clear hb hbox hg) | ((with_reducible refine gate_dst (N := 5) rfl ?_); refine bV 5 (cs := #[.int .i64 a2_0, .int .i64 a2_1]) (t := 26) rfl rfl (by first | (go_simp; done) | (go_simp; rfl)) ?_; intro gb125 hg w6 hbox hb; have BK125 := hbox; have GW125 := gZ HB hg; have GE125 := gZ HB hg; have NB123_125 := nG BK123 hg; have NB125_123 := nH BK123 hg; have NB124_125 := nG BK124 hg; have NB125_124 := nH BK124 hg; replace BK123 := bB BK123 hb; replace BK124 := bB BK124 hb; replace HB := tB HB hb; clear hb hbox hg; have hnb7 := NB124_123.out; have hnc7 := NB123_124.out; have hnb8 := NB124_125.out; have hnc8 := NB125_124.out; have hcz9_0 := vZ0 BK124; have hcz9_1 := vZ1 BK124; have hfz9_0 := kF BK124.out 0; have hfz9_1 := kF BK124.out 1; have hnb10 := NB123_125.out; have hnc10 := NB125_123.out; have hcz11_0 := vZ0 BK123; have hcz11_1 := vZ1 BK123; have hfz11_0 := kF BK123.out 0; have hfz11_1 := kF BK123.out 1; have hcz12_0 := vZ0 BK125; have hcz12_1 := vZ1 BK125; have hfz12_0 := kF BK125.out 0; have hfz12_1 := kF BK125.out 1))
 go_ret
 exact ⟨wQ, bE⟩

def spec_pgOn.f (a0_0 : Int) (a0_1 : Int) (a1_0 : Int) (a1_1 : Int) (a2_0 : Int) (a2_1 : Int) : Option (Bool) := (spec_pgTurn.f a0_0 a0_1 a1_0 a1_1 a2_0 a2_1).bind fun t129 => (if t129 = 0 then (if (wrap64 ((wrap64 (a0_0 - a2_0)) * (wrap64 (a1_0 - a2_0)))) ≤ 0 then (some (decide ((wrap64 ((wrap64 (a0_1 - a2_1)) * (wrap64 (a1_1 - a2_1)))) ≤ 0))) else (some false)) else (some false))
set_option maxHeartbeats 8000000 in
set_option maxRecDepth 100000 in
theorem spec_pgOn.calls (a0_0 : Int) (a0_1 : Int) (a1_0 : Int) (a1_1 : Int) (a2_0 : Int) (a2_1 : Int) (r : Bool) (w : World) (h : spec_pgOn.f a0_0 a0_1 a1_0 a1_1 a2_0 a2_1 = some r) :
  Calls Try.prog 133 #[.agg #[.int .i64 a0_0, .int .i64 a0_1], .agg #[.int .i64 a1_0, .int .i64 a1_1], .agg #[.int .i64 a2_0, .int .i64 a2_1]] w fun e w' => e = .returned (.bool r) ∧ Below w.heap.size w w' := by
 have hu26 := Try.underlying26; have HB := aM (Below.refl w.heap.size w)
 unfold spec_pgOn.f at h; have H := h; clear h
 replace H := bS H; obtain ⟨t129, A4, H⟩ := H
 by_cases c5 : t129 = 0
 ·rw [if_pos c5] at H; have c5b0 : (t129 == 0) = true := beq_iff_eq.mpr c5; have c5b1 : (t129 != 0) = false := bne_eq_false_iff_eq.mpr c5; clear c5
  by_cases c6 : (wrap64 ((wrap64 (a0_0 - a2_0)) * (wrap64 (a1_0 - a2_0)))) ≤ 0
  ·rw [if_pos c6] at H; have c6b0 := dE c6; clear c6; obtain rfl := Option.some.inj H
   go_enter Try.func133, Try.ntmps133
   go_wp2_with (first | ((with_reducible refine gate_dst (N := 3) rfl ?_); refine bV 3 (cs := #[.int .i64 a0_0, .int .i64 a0_1]) (t := 26) rfl rfl (by first | (go_simp; done) | (go_simp; rfl)) ?_; intro gb126 hg w7 hbox hb; have BK126 := hbox; have GW126 := gZ HB hg; have GE126 := gZ HB hg; replace HB := tB HB hb; clear hb hbox hg) | ((with_reducible refine gate_dst (N := 4) rfl ?_); refine bV 4 (cs := #[.int .i64 a1_0, .int .i64 a1_1]) (t := 26) rfl rfl (by first | (go_simp; done) | (go_simp; rfl)) ?_; intro gb127 hg w8 hbox hb; have BK127 := hbox; have GW127 := gZ HB hg; have GE127 := gZ HB hg; have NB126_127 := nG BK126 hg; have NB127_126 := nH BK126 hg; replace BK126 := bB BK126 hb; replace HB := tB HB hb; clear hb hbox hg) | ((with_reducible refine gate_dst (N := 5) rfl ?_); refine bV 5 (cs := #[.int .i64 a2_0, .int .i64 a2_1]) (t := 26) rfl rfl (by first | (go_simp; done) | (go_simp; rfl)) ?_; intro gb128 hg w9 hbox hb; have BK128 := hbox; have GW128 := gZ HB hg; have GE128 := gZ HB hg; have NB126_128 := nG BK126 hg; have NB128_126 := nH BK126 hg; have NB127_128 := nG BK127 hg; have NB128_127 := nH BK127 hg; replace BK126 := bB BK126 hb; replace BK127 := bB BK127 hb; replace HB := tB HB hb; clear hb hbox hg; have hnb10 := NB126_127.out; have hnc10 := NB127_126.out; have hnb11 := NB126_128.out; have hnc11 := NB128_126.out; have hcz12_0 := vZ0 BK126; have hcz12_1 := vZ1 BK126; have hfz12_0 := kF BK126.out 0; have hfz12_1 := kF BK126.out 1; have hnb13 := NB127_128.out; have hnc13 := NB128_127.out; have hcz14_0 := vZ0 BK127; have hcz14_1 := vZ1 BK127; have hfz14_0 := kF BK127.out 0; have hfz14_1 := kF BK127.out 1; have hcz15_0 := vZ0 BK128; have hcz15_1 := vZ1 BK128; have hfz15_0 := kF BK128.out 0; have hfz15_1 := kF BK128.out 1) | ((with_reducible refine gC (f := 106) rfl ?_); refine goesL_ (some 10) rfl rfl Try.func106 kR rfl #[.agg #[.int .i64 a0_0, .int .i64 a0_1], .agg #[.int .i64 a1_0, .int .i64 a1_1], .agg #[.int .i64 a2_0, .int .i64 a2_1]] rfl sQ ?_; (with_reducible refine (spec_pgTurn.calls a0_0 a0_1 a1_0 a1_1 a2_0 a2_1 t129 _ A4.out).mono ?_); rintro e w16 ⟨rfl, hb⟩; refine ⟨_, rfl, ?_⟩; replace BK126 := bB BK126 hb; replace BK127 := bB BK127 hb; replace BK128 := bB BK128 hb; replace HB := tB HB hb; (try clear hb); (try clear hb2); (try clear hk); (try clear hi); have hcz17_0 := vZ0 BK126; have hcz17_1 := vZ1 BK126; have hfz17_0 := kF BK126.out 0; have hfz17_1 := kF BK126.out 1; have hcz18_0 := vZ0 BK128; have hcz18_1 := vZ1 BK128; have hfz18_0 := kF BK128.out 0; have hfz18_1 := kF BK128.out 1; have hcz19_0 := vZ0 BK127; have hcz19_1 := vZ1 BK127; have hfz19_0 := kF BK127.out 0; have hfz19_1 := kF BK127.out 1))
   go_ret
   exact ⟨wQ, bE⟩
  ·rw [if_neg c6] at H; have c6b0 := decide_eq_false c6; clear c6; obtain rfl := Option.some.inj H
   go_enter Try.func133, Try.ntmps133
   go_wp2_with (first | ((with_reducible refine gate_dst (N := 3) rfl ?_); refine bV 3 (cs := #[.int .i64 a0_0, .int .i64 a0_1]) (t := 26) rfl rfl (by first | (go_simp; done) | (go_simp; rfl)) ?_; intro gb126 hg w20 hbox hb; have BK126 := hbox; have GW126 := gZ HB hg; have GE126 := gZ HB hg; replace HB := tB HB hb; clear hb hbox hg) | ((with_reducible refine gate_dst (N := 4) rfl ?_); refine bV 4 (cs := #[.int .i64 a1_0, .int .i64 a1_1]) (t := 26) rfl rfl (by first | (go_simp; done) | (go_simp; rfl)) ?_; intro gb127 hg w21 hbox hb; have BK127 := hbox; have GW127 := gZ HB hg; have GE127 := gZ HB hg; have NB126_127 := nG BK126 hg; have NB127_126 := nH BK126 hg; replace BK126 := bB BK126 hb; replace HB := tB HB hb; clear hb hbox hg) | ((with_reducible refine gate_dst (N := 5) rfl ?_); refine bV 5 (cs := #[.int .i64 a2_0, .int .i64 a2_1]) (t := 26) rfl rfl (by first | (go_simp; done) | (go_simp; rfl)) ?_; intro gb128 hg w22 hbox hb; have BK128 := hbox; have GW128 := gZ HB hg; have GE128 := gZ HB hg; have NB126_128 := nG BK126 hg; have NB128_126 := nH BK126 hg; have NB127_128 := nG BK127 hg; have NB128_127 := nH BK127 hg; replace BK126 := bB BK126 hb; replace BK127 := bB BK127 hb; replace HB := tB HB hb; clear hb hbox hg; have hnb23 := NB126_127.out; have hnc23 := NB127_126.out; have hnb24 := NB126_128.out; have hnc24 := NB128_126.out; have hcz25_0 := vZ0 BK126; have hcz25_1 := vZ1 BK126; have hfz25_0 := kF BK126.out 0; have hfz25_1 := kF BK126.out 1; have hnb26 := NB127_128.out; have hnc26 := NB128_127.out; have hcz27_0 := vZ0 BK127; have hcz27_1 := vZ1 BK127; have hfz27_0 := kF BK127.out 0; have hfz27_1 := kF BK127.out 1; have hcz28_0 := vZ0 BK128; have hcz28_1 := vZ1 BK128; have hfz28_0 := kF BK128.out 0; have hfz28_1 := kF BK128.out 1) | ((with_reducible refine gC (f := 106) rfl ?_); refine goesL_ (some 10) rfl rfl Try.func106 kR rfl #[.agg #[.int .i64 a0_0, .int .i64 a0_1], .agg #[.int .i64 a1_0, .int .i64 a1_1], .agg #[.int .i64 a2_0, .int .i64 a2_1]] rfl sQ ?_; (with_reducible refine (spec_pgTurn.calls a0_0 a0_1 a1_0 a1_1 a2_0 a2_1 t129 _ A4.out).mono ?_); rintro e w29 ⟨rfl, hb⟩; refine ⟨_, rfl, ?_⟩; replace BK126 := bB BK126 hb; replace BK127 := bB BK127 hb; replace BK128 := bB BK128 hb; replace HB := tB HB hb; (try clear hb); (try clear hb2); (try clear hk); (try clear hi); have hcz30_0 := vZ0 BK126; have hcz30_1 := vZ1 BK126; have hfz30_0 := kF BK126.out 0; have hfz30_1 := kF BK126.out 1; have hcz31_0 := vZ0 BK128; have hcz31_1 := vZ1 BK128; have hfz31_0 := kF BK128.out 0; have hfz31_1 := kF BK128.out 1; have hcz32_0 := vZ0 BK127; have hcz32_1 := vZ1 BK127; have hfz32_0 := kF BK127.out 0; have hfz32_1 := kF BK127.out 1))
   go_ret
   exact ⟨wQ, bE⟩
 ·rw [if_neg c5] at H; have c5b0 : (t129 == 0) = false := beq_eq_false_iff_ne.mpr c5; have c5b1 : (t129 != 0) = true := bne_iff_ne.mpr c5; obtain rfl := Option.some.inj H
  go_enter Try.func133, Try.ntmps133
  go_wp2_with (first | ((with_reducible refine gate_dst (N := 3) rfl ?_); refine bV 3 (cs := #[.int .i64 a0_0, .int .i64 a0_1]) (t := 26) rfl rfl (by first | (go_simp; done) | (go_simp; rfl)) ?_; intro gb126 hg w33 hbox hb; have BK126 := hbox; have GW126 := gZ HB hg; have GE126 := gZ HB hg; replace HB := tB HB hb; clear hb hbox hg) | ((with_reducible refine gate_dst (N := 4) rfl ?_); refine bV 4 (cs := #[.int .i64 a1_0, .int .i64 a1_1]) (t := 26) rfl rfl (by first | (go_simp; done) | (go_simp; rfl)) ?_; intro gb127 hg w34 hbox hb; have BK127 := hbox; have GW127 := gZ HB hg; have GE127 := gZ HB hg; have NB126_127 := nG BK126 hg; have NB127_126 := nH BK126 hg; replace BK126 := bB BK126 hb; replace HB := tB HB hb; clear hb hbox hg) | ((with_reducible refine gate_dst (N := 5) rfl ?_); refine bV 5 (cs := #[.int .i64 a2_0, .int .i64 a2_1]) (t := 26) rfl rfl (by first | (go_simp; done) | (go_simp; rfl)) ?_; intro gb128 hg w35 hbox hb; have BK128 := hbox; have GW128 := gZ HB hg; have GE128 := gZ HB hg; have NB126_128 := nG BK126 hg; have NB128_126 := nH BK126 hg; have NB127_128 := nG BK127 hg; have NB128_127 := nH BK127 hg; replace BK126 := bB BK126 hb; replace BK127 := bB BK127 hb; replace HB := tB HB hb; clear hb hbox hg; have hnb36 := NB126_127.out; have hnc36 := NB127_126.out; have hnb37 := NB126_128.out; have hnc37 := NB128_126.out; have hcz38_0 := vZ0 BK126; have hcz38_1 := vZ1 BK126; have hfz38_0 := kF BK126.out 0; have hfz38_1 := kF BK126.out 1; have hnb39 := NB127_128.out; have hnc39 := NB128_127.out; have hcz40_0 := vZ0 BK127; have hcz40_1 := vZ1 BK127; have hfz40_0 := kF BK127.out 0; have hfz40_1 := kF BK127.out 1; have hcz41_0 := vZ0 BK128; have hcz41_1 := vZ1 BK128; have hfz41_0 := kF BK128.out 0; have hfz41_1 := kF BK128.out 1) | ((with_reducible refine gC (f := 106) rfl ?_); refine goesL_ (some 10) rfl rfl Try.func106 kR rfl #[.agg #[.int .i64 a0_0, .int .i64 a0_1], .agg #[.int .i64 a1_0, .int .i64 a1_1], .agg #[.int .i64 a2_0, .int .i64 a2_1]] rfl sQ ?_; (with_reducible refine (spec_pgTurn.calls a0_0 a0_1 a1_0 a1_1 a2_0 a2_1 t129 _ A4.out).mono ?_); rintro e w42 ⟨rfl, hb⟩; refine ⟨_, rfl, ?_⟩; replace BK126 := bB BK126 hb; replace BK127 := bB BK127 hb; replace BK128 := bB BK128 hb; replace HB := tB HB hb; (try clear hb); (try clear hb2); (try clear hk); (try clear hi)))
  go_ret
  exact ⟨wQ, bE⟩

def spec_l1Sign.f (a0 : Int) : Option (Int) := if a0 > 0 then (some 1) else (if a0 < 0 then (some (-1)) else (some 0))
set_option maxHeartbeats 8000000 in
set_option maxRecDepth 100000 in
theorem spec_l1Sign.calls (a0 : Int) (r : Int) (w : World) (h : spec_l1Sign.f a0 = some r) :
  Calls Try.prog 136 #[.int .i64 a0] w fun e w' => e = .returned (.int .i64 r) ∧ Drawn0 w w' := by
 unfold spec_l1Sign.f at h; have H := h; clear h
 by_cases c2 : a0 > 0
 ·rw [if_pos c2] at H; have c2b0 := dE c2; clear c2; obtain rfl := Option.some.inj H
  go_enter Try.func136, Try.ntmps136
  go_wp2
  go_ret
  exact ⟨eQ, dQ⟩
 ·rw [if_neg c2] at H; have c2b0 := decide_eq_false c2; clear c2
  by_cases c3 : a0 < 0
  ·rw [if_pos c3] at H; have c3b0 := dE c3; clear c3; obtain rfl := Option.some.inj H
   go_enter Try.func136, Try.ntmps136
   go_wp2
   go_ret
   exact ⟨eQ, dQ⟩
  ·rw [if_neg c3] at H; have c3b0 := decide_eq_false c3; clear c3; obtain rfl := Option.some.inj H
   go_enter Try.func136, Try.ntmps136
   go_wp2
   go_ret
   exact ⟨eQ, dQ⟩

end Go.Proofs.Ytklhakfmegbobaa.X
