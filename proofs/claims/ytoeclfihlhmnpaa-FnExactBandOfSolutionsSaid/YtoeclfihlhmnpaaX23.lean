-- thin
-- short
-- compact
import Derived.Test.YtoeclfihlhmnpaaXA
import Derived.Test.YtoeclfihlhmnpaaX0
namespace Go.Proofs.Ytoeclfihlhmnpaa.X
open Go.RowKit Go.Proofs.Ytoeclfihlhmnpaa.XW Go.Proofs.YtoeclfihlhmnpaaW.PrintWords Go.Proofs.YtoeclfihlhmnpaaW.PrintLast Go.Proofs.YtoeclfihlhmnpaaW.PrintMore
attribute [local go_sem] max2_int min2_int max_two min_two max_three min_three max_four min_four   -- for this text's walks alone
set_option linter.unusedVariables false
set_option linter.unusedSimpArgs false

def laws_markPegS.l0 : Nat → List (S_impl_Peg) → Int → Int → Option (Int × (List (S_impl_Peg)))
 | 0, _, _, _ => none
 | k + 1, x0, x1, x5 => if x5 < (x0.length : Int) then (if 0 ≤ x5 then ((some (x0.set (x5 : Int).toNat (⟨x1, (rd_impl_Peg x0 x5).f1⟩ : S_impl_Peg) : List (S_impl_Peg))).bind fun y495 => (laws_markPegS.l0 k (y495.set (x5 : Int).toNat (⟨(rd_impl_Peg y495 x5).f0, wrap64 (x1 + 1)⟩ : S_impl_Peg)) (wrap64 ((wrap64 (x1 + 1)) + 1)) (wrap64 (x5 + 1)))) else (none)) else (some (x1, x0))
def laws_markPegS.f (k : Nat) (l0 : List (S_impl_Peg)) (a1 : Int) : Option (Int × (List (S_impl_Peg))) := laws_markPegS.l0 k l0 a1 0
theorem laws_markPegS.mono_l : ∀ k, (∀ y0 y1 y2, LeO (laws_markPegS.l0 k y0 y1 y2) (laws_markPegS.l0 (k + 1) y0 y1 y2))
 | 0 => fun _ _ _ r h => by simp [laws_markPegS.l0] at h
 | k + 1 => by
  have ih0 := laws_markPegS.mono_l k
  ·intro y0 y1 y2
   unfold laws_markPegS.l0
   repeat' first
   | (with_reducible exact ih0 _ _ _)
   | (with_reducible exact LeO.refl _)
   | (with_reducible exact LeO.none _)
   | (with_reducible refine LeO.ite ?_ ?_)
   | (with_reducible refine LeO.bind ?_ (fun _ => ?_))
   | exact ih0 _ _ _
   | exact LeO.none _
   | refine LeO.ite ?_ ?_
   | refine LeO.bind ?_ (fun _ => ?_)
theorem laws_markPegS.mono : ∀ a0 a1 k, LeO (laws_markPegS.f k a0 a1) (laws_markPegS.f (k + 1) a0 a1) := by
 intro a0 a1 k
 have ih0 := laws_markPegS.mono_l k
 unfold laws_markPegS.f
 repeat' first | (with_reducible exact ih0 _ _ _) | (with_reducible exact LeO.refl _) | (with_reducible exact LeO.none _) | (with_reducible refine LeO.ite ?_ ?_) | (with_reducible refine LeO.bind ?_ (fun _ => ?_)) | exact ih0 _ _ _ | exact LeO.none _ | refine LeO.ite ?_ ?_ | refine LeO.bind ?_ (fun _ => ?_)
set_option maxHeartbeats 8000000 in
set_option maxRecDepth 100000 in
theorem laws_markPegS.calls (k : Nat) (P0_ : Nat → Prop) (u9000_ : Value) (l0 : List (S_impl_Peg)) (a1 : Int) (r1 : Int) (r2 : List (S_impl_Peg)) (w0 w : World) (hB : Below w0.heap.size w0 w) (ho0 : Kd.R kd_impl_Peg 41 w w0.heap.size P0_ u9000_ l0) (h : laws_markPegS.f k l0 a1 = some (r1, r2)) :
  Calls Try.prog 12 #[u9000_, .int .i64 a1] w fun e w' => e = .returned (.int .i64 r1) ∧ Kd.R kd_impl_Peg 41 w' w0.heap.size (fun k_ => (P0_ k_ ∨ w.heap.size ≤ k_)) u9000_ r2 ∧ Below w0.heap.size w0 w' ∧ Kept w w' (fun k_ => P0_ k_) := by
 have HO0 := aM (show Kd.R kd_impl_Peg 41 w w0.heap.size (fun k_ => (P0_ k_ ∨ w.heap.size ≤ k_)) u9000_ l0 from Kd.R_mono ho0 (fun k_ hk => (.inl hk))); have HK := aM (Kept.refl w (fun k_ => P0_ k_)); have HW0 := aM hB.size; have HB := aM hB; clear hB
 unfold laws_markPegS.f at h; have H := h; clear h
 have H' := aM H; clear H
 go_enter Try.func12, Try.ntmps12
 go_wp2
 go_loopg [1, 5] k (fun kq v1 v5 w' => ∃ (x0_1 : List (S_impl_Peg)) (x1_1 : Int) (x5_1 : Int), v1 = .int .i64 x1_1 ∧ v5 = .int .i64 x5_1 ∧ Aside0 (laws_markPegS.l0 kq x0_1 x1_1 x5_1 = some (r1, r2)) ∧ Aside0 (kq ≤ k) ∧ Aside0 (Kd.R kd_impl_Peg 41 w' w0.heap.size (fun k_ => (P0_ k_ ∨ w.heap.size ≤ k_)) u9000_ x0_1) ∧ Aside0 (Kept w w' (fun k_ => P0_ k_)) ∧ Aside0 (Below w0.heap.size w0 w'))
 case atStart => exact ⟨(l0), (a1), (0), eQ, eQ, H', ⟨Nat.le_refl _⟩, ⟨by (with_reducible repeat (first | apply rA | apply rN | apply rD)); exact HO0.out⟩, ⟨by repeat (first | (with_reducible first | exact HK.out | apply Kept.alloc | apply Kept.drewN | apply Kept.drew) | exact HK.out)⟩, ⟨bQ⟩⟩
 case round =>
  clear H'; obtain ⟨x0_1, x1_1, x5_1, rfl, rfl, HA, HK1, HO_0, HK, HB⟩ := hrel
  cases gk with
  | zero => exact absurd HA.out (by simp [laws_markPegS.l0])
  | succ k1 =>
   have H := HA.out; clear HA
   simp only [laws_markPegS.l0] at H
   by_cases c3 : x5_1 < (x0_1.length : Int)
   ·rw [if_pos c3] at H; have c3b0 := dE c3; clear c3; replace H := iD H; obtain ⟨c4b0, H⟩ := H; replace H := lS H; obtain ⟨y495, Ny495, H⟩ := H; obtain ⟨y496, hy496⟩ : ∃ y_ : List (S_impl_Peg), y_ = (y495.set (x5_1 : Int).toNat (⟨(rd_impl_Peg y495 x5_1).f0, wrap64 (x1_1 + 1)⟩ : S_impl_Peg)) := ⟨_, rfl⟩; rw [← hy496] at H; have Ny496 := aM hy496; clear hy496; have H' := aM H; clear H; obtain ⟨Ao7, co7, eo7⟩ := Kd.R_slice HO_0.out; subst eo7; have p5 : 0 ≤ (x5_1 : Int) := dT aQ; have q5 : (x5_1 : Int) < ((x0_1.length : Int) : Int) := dT aQ; obtain ⟨go5, co5, eo5, gb5, gl5, cl5, HG5⟩ := Kd.R_form HO_0.out (by omega)
    (first | cases eo5 | (injection eo5 with ea_ en_ ec_; (first | subst ea_ | (injection ea_ with ea_; subst ea_)); subst ec_; clear en_))
    have GB5 := aM gb5; have GG5 := aM HG5; clear gb5 gl5 HG5; have HMgo5 := aM (show (P0_ go5 ∨ w.heap.size ≤ go5) from (HO_0.out.1 _ rfl)); obtain ⟨ce5, hcl5, hM5, hcc5, hfr5⟩ := Kd.R_elem HO_0.out z_impl_Peg (x5_1 : Int) p5 q5; obtain rfl := kd_impl_Peg_openM hM5; have hx5_0 : wr.cell? ⟨go5, (x5_1 : Int).toNat * 2, none⟩ = some (.int .i64 ((rd_impl_Peg x0_1 x5_1).f0)) := hcc5 0 _ rfl; have hx5_1 : wr.cell? ⟨go5, (x5_1 : Int).toNat * 2 + 1, none⟩ = some (.int .i64 ((rd_impl_Peg x0_1 x5_1).f1)) := hcc5 1 _ rfl; have hf5_0 : wr.frozen? ⟨go5, (x5_1 : Int).toNat * 2, none⟩ = false := hfr5 0; have hf5_1 : wr.frozen? ⟨go5, (x5_1 : Int).toNat * 2 + 1, none⟩ = false := hfr5 1; clear hcl5 hcc5 hfr5 hM5; replace p5 := eq_true p5; replace q5 := eq_true q5; have HX8 := aM (show Kd.R kd_impl_Peg 41 wr w0.heap.size (fun k_ => (P0_ k_ ∨ w.heap.size ≤ k_)) (.slice (some ⟨go5, 0, none⟩) x0_1.length co7) x0_1 from (by (with_reducible repeat (first | apply rA | apply rN | apply rD)); exact HO_0.out))
    obtain ⟨ce8, hcl8, hM8, hcc8, hfr8⟩ := Kd.R_elem HX8.out z_impl_Peg (x5_1 : Int) (dT aQ) (by have h_ : (x5_1 : Int) < ((x0_1.length : Int) : Int) := dT aQ; first | exact h_ | (have e_ := (rR HO_0.out).1; omega) | simpa using h_)
    obtain rfl := kd_impl_Peg_openM hM8; have HP8 := Kd.R_seg HX8.out (x5_1 : Int) (dT aQ) (by have h_ : (x5_1 : Int) < ((x0_1.length : Int) : Int) := dT aQ; first | exact h_ | (have e_ := (rR HO_0.out).1; omega) | simpa using h_) (seg := [.int .i64 x1_1]) (j := 0) hcl8 hcc8 (show 1 ≤ 2 from by decide) (x' := (⟨x1_1, (rd_impl_Peg x0_1 x5_1).f1⟩ : S_impl_Peg)) (kd_impl_Peg_mkM _ _ _ (⟨x1_1, (rd_impl_Peg x0_1 x5_1).f1⟩ : S_impl_Peg) ) (fun _ hk => hk)
    have hx8_0 := hcc8 0 _ rfl
    (try simp only [show (kd_impl_Peg).sz = 2 from rfl, Nat.mul_one, Nat.add_zero] at hx8_0)
    have hf8_0 := hfr8 0
    (try simp only [show (kd_impl_Peg).sz = 2 from rfl, Nat.mul_one, Nat.add_zero] at hf8_0)
    clear hcl8 hcc8 hfr8 hM8
    go_wp2_with (first | ((with_reducible refine gate_store (t := 3) (p := 16) rfl ?_); refine store_event (t := 3) (p := 16) (v := ?vo_w9) (w1 := (wr.setCell ⟨go5, (x5_1 : Int).toNat * 2, none⟩ (.int .i64 x1_1))) ?hg ?ho ?hn ?hr ?_; (case ho => rfl); (case hg => rfl); (case hn => rfl); (case hr => first | (go_simp; done) | (go_simp; rfl)); intro w9 hw; have hg : wr.grownBy w9 (some go5) := (by rw [hw]; exact HP8.2); have hp_ : Kd.R kd_impl_Peg 41 w9 w0.heap.size (fun k_ => (P0_ k_ ∨ w.heap.size ≤ k_)) (.slice (some ⟨go5, 0, none⟩) x0_1.length co7) y495 := (by rw [hw, Ny495.out]; exact HP8.1); clear HP8; replace HB := aM ((by rw [hw]; exact pS (HB.out) GB5.out : Below w0.heap.size w0 w9)); replace HK := aM (Kept.of_grown (S := (fun k_ => P0_ k_)) hg (by repeat (first | (with_reducible first | exact HK.out | apply Kept.alloc | apply Kept.drewN | apply Kept.drew) | exact HK.out)) (fun k_ e_ => (HO_0.out.1 k_ e_))); replace HO_0 := aM (hp_); clear hg hw hp_; have p6 : 0 ≤ (x5_1 : Int) := dT aQ; have q6 : (x5_1 : Int) < ((x0_1.length : Int) : Int) := dT aQ; obtain ⟨ce6, hcl6, hM6, hcc6, hfr6⟩ := Kd.R_elem HO_0.out z_impl_Peg (x5_1 : Int) p6 q6; obtain rfl := kd_impl_Peg_openM hM6; have hx6_0 : w9.cell? ⟨go5, (x5_1 : Int).toNat * 2, none⟩ = some (.int .i64 ((rd_impl_Peg y495 x5_1).f0)) := hcc6 0 _ rfl; have hx6_1 : w9.cell? ⟨go5, (x5_1 : Int).toNat * 2 + 1, none⟩ = some (.int .i64 ((rd_impl_Peg y495 x5_1).f1)) := hcc6 1 _ rfl; have hf6_0 : w9.frozen? ⟨go5, (x5_1 : Int).toNat * 2, none⟩ = false := hfr6 0; have hf6_1 : w9.frozen? ⟨go5, (x5_1 : Int).toNat * 2 + 1, none⟩ = false := hfr6 1; clear hcl6 hcc6 hfr6 hM6; replace p6 := eq_true p6; replace q6 := eq_true q6; have HX10 := aM (show Kd.R kd_impl_Peg 41 w9 w0.heap.size (fun k_ => (P0_ k_ ∨ w.heap.size ≤ k_)) (.slice (some ⟨go5, 0, none⟩) x0_1.length co7) y495 from (by (with_reducible repeat (first | apply rA | apply rN | apply rD)); exact HO_0.out)); obtain ⟨ce10, hcl10, hM10, hcc10, hfr10⟩ := Kd.R_elem HX10.out z_impl_Peg (x5_1 : Int) (dT aQ) (by have h_ : (x5_1 : Int) < ((x0_1.length : Int) : Int) := dT aQ; first | exact h_ | (have e_ := (rR HO_0.out).1; omega) | simpa using h_); obtain rfl := kd_impl_Peg_openM hM10; have HP10 := Kd.R_seg HX10.out (x5_1 : Int) (dT aQ) (by have h_ : (x5_1 : Int) < ((x0_1.length : Int) : Int) := dT aQ; first | exact h_ | (have e_ := (rR HO_0.out).1; omega) | simpa using h_) (seg := [.int .i64 (wrap64 (x1_1 + 1))]) (j := 1) hcl10 hcc10 (show 2 ≤ 2 from by decide) (x' := (⟨(rd_impl_Peg y495 x5_1).f0, wrap64 (x1_1 + 1)⟩ : S_impl_Peg)) (kd_impl_Peg_mkM _ _ _ (⟨(rd_impl_Peg y495 x5_1).f0, wrap64 (x1_1 + 1)⟩ : S_impl_Peg) ) (fun _ hk => hk); have hx10_1 := hcc10 1 _ rfl; (try simp only [show (kd_impl_Peg).sz = 2 from rfl, Nat.mul_one, Nat.add_zero] at hx10_1); have hf10_1 := hfr10 1; (try simp only [show (kd_impl_Peg).sz = 2 from rfl, Nat.mul_one, Nat.add_zero] at hf10_1); clear hcl10 hcc10 hfr10 hM10) | ((with_reducible refine gate_store (t := 3) (p := 23) rfl ?_); refine store_event (t := 3) (p := 23) (v := ?vo_w11) (w1 := (w9.setCell ⟨go5, (x5_1 : Int).toNat * 2 + 1, none⟩ (.int .i64 (wrap64 (x1_1 + 1))))) ?hg ?ho ?hn ?hr ?_; (case ho => rfl); (case hg => rfl); (case hn => rfl); (case hr => first | (go_simp; done) | (go_simp; rfl)); intro w11 hw; have hg : w9.grownBy w11 (some go5) := (by rw [hw]; exact HP10.2); have hp_ : Kd.R kd_impl_Peg 41 w11 w0.heap.size (fun k_ => (P0_ k_ ∨ w.heap.size ≤ k_)) (.slice (some ⟨go5, 0, none⟩) x0_1.length co7) y496 := (by rw [hw, Ny496.out]; exact HP10.1); clear HP10; replace HB := aM ((by rw [hw]; exact pS (HB.out) GB5.out : Below w0.heap.size w0 w11)); replace HK := aM (Kept.of_grown (S := (fun k_ => P0_ k_)) hg (by repeat (first | (with_reducible first | exact HK.out | apply Kept.alloc | apply Kept.drewN | apply Kept.drew) | exact HK.out)) (fun k_ e_ => (HO_0.out.1 k_ e_))); replace HO_0 := aM (hp_); clear hg hw hp_))
    go_roundg k1
    case measure => have := HK1.out; omega
    case rel => exact ⟨(y496), (wrap64 ((wrap64 (x1_1 + 1)) + 1)), (wrap64 (x5_1 + 1)), eQ, eQ, H', ⟨by have := HK1.out; omega⟩, ⟨by (with_reducible repeat (first | apply rA | apply rN | apply rD)); exact HO_0.out⟩, ⟨by repeat (first | (with_reducible first | exact HK.out | apply Kept.alloc | apply Kept.drewN | apply Kept.drew) | exact HK.out)⟩, ⟨bQ⟩⟩
   ·rw [if_neg c3] at H; have c3b0 := decide_eq_false c3; clear c3
    simp only [Option.some.injEq, Prod.mk.injEq] at H
    obtain ⟨rfl, rfl⟩ := H; obtain ⟨Ao12, co12, eo12⟩ := Kd.R_slice HO_0.out; subst eo12; go_wp2
    go_ret
    exact ⟨wQ, by (with_reducible repeat (first | apply rA | apply rN | apply rD)); exact HO_0.out, by repeat (first | (with_reducible first | exact HB.out | apply pA | apply pN | apply pD) | exact HB.out), by repeat (first | (with_reducible first | exact HK.out | apply Kept.alloc | apply Kept.drewN | apply Kept.drew) | exact HK.out)⟩

def laws_heldPegS.l0 : Nat → List (S_impl_Peg) → Int → Int → Option (Int)
 | 0, _, _, _ => none
 | k + 1, x0, x1, x5 => if x5 < (x0.length : Int) then (if 0 ≤ x5 then (if ((rd_impl_Peg x0 x5).f0) = x1 then (if ((rd_impl_Peg x0 x5).f1) = (wrap64 (x1 + 1)) then (laws_heldPegS.l0 k x0 (wrap64 ((wrap64 (x1 + 1)) + 1)) (wrap64 (x5 + 1))) else (some (-1))) else (some (-1))) else (none)) else (some x1)
def laws_heldPegS.f (k : Nat) (l0 : List (S_impl_Peg)) (a1 : Int) : Option (Int) := laws_heldPegS.l0 k l0 a1 0
theorem laws_heldPegS.mono_l : ∀ k, (∀ y0 y1 y2, LeO (laws_heldPegS.l0 k y0 y1 y2) (laws_heldPegS.l0 (k + 1) y0 y1 y2))
 | 0 => fun _ _ _ r h => by simp [laws_heldPegS.l0] at h
 | k + 1 => by
  have ih0 := laws_heldPegS.mono_l k
  ·intro y0 y1 y2
   unfold laws_heldPegS.l0
   repeat' first
   | (with_reducible exact ih0 _ _ _)
   | (with_reducible exact LeO.refl _)
   | (with_reducible exact LeO.none _)
   | (with_reducible refine LeO.ite ?_ ?_)
   | (with_reducible refine LeO.bind ?_ (fun _ => ?_))
   | exact ih0 _ _ _
   | exact LeO.none _
   | refine LeO.ite ?_ ?_
   | refine LeO.bind ?_ (fun _ => ?_)
theorem laws_heldPegS.mono : ∀ a0 a1 k, LeO (laws_heldPegS.f k a0 a1) (laws_heldPegS.f (k + 1) a0 a1) := by
 intro a0 a1 k
 have ih0 := laws_heldPegS.mono_l k
 unfold laws_heldPegS.f
 repeat' first | (with_reducible exact ih0 _ _ _) | (with_reducible exact LeO.refl _) | (with_reducible exact LeO.none _) | (with_reducible refine LeO.ite ?_ ?_) | (with_reducible refine LeO.bind ?_ (fun _ => ?_)) | exact ih0 _ _ _ | exact LeO.none _ | refine LeO.ite ?_ ?_ | refine LeO.bind ?_ (fun _ => ?_)
set_option maxHeartbeats 8000000 in
set_option maxRecDepth 100000 in
theorem laws_heldPegS.calls (k : Nat) (A0 : Option Addr) (c0 : Nat) (l0 : List (S_impl_Peg)) (a1 : Int) (r : Int) (w : World) (hr0 : Kd.C kd_impl_Peg w A0 l0.length l0) (hc0 : l0.length ≤ c0) (h : laws_heldPegS.f k l0 a1 = some r) :
  Calls Try.prog 13 #[.slice A0 l0.length c0, .int .i64 a1] w fun e w' => e = .returned (.int .i64 r) ∧ Drawn0 w w' := by
 have HR0 := aM hr0; have HC0 := aM hc0; clear hr0 hc0
 unfold laws_heldPegS.f at h; have H := h; clear h
 have H' := aM H; clear H
 go_enter Try.func13, Try.ntmps13
 go_wp2
 go_loopg [1, 5] k (fun kq v1 v5 w' => ∃ (x1_1 : Int) (x5_1 : Int), v1 = .int .i64 x1_1 ∧ v5 = .int .i64 x5_1 ∧ Aside0 (laws_heldPegS.l0 kq l0 x1_1 x5_1 = some r) ∧ Aside0 (kq ≤ k) ∧ Drawn0 w w')
 case atStart => exact ⟨(a1), (0), eQ, eQ, H', ⟨Nat.le_refl _⟩, dQ⟩
 case round =>
  clear H'; obtain ⟨x1_1, x5_1, rfl, rfl, HA, HK1, ⟨m1, rfl⟩⟩ := hrel
  cases gk with
  | zero => exact absurd HA.out (by simp [laws_heldPegS.l0])
  | succ k1 =>
   have H := HA.out; clear HA
   simp only [laws_heldPegS.l0] at H
   by_cases c3 : x5_1 < (l0.length : Int)
   ·rw [if_pos c3] at H; have c3b0 := dE c3; clear c3; replace H := iD H; obtain ⟨c4b0, H⟩ := H
    by_cases c5 : ((rd_impl_Peg l0 x5_1).f0) = x1_1
    ·rw [if_pos c5] at H; have c5b0 : (((rd_impl_Peg l0 x5_1).f0) == x1_1) = true := beq_iff_eq.mpr c5; have c5b1 : (((rd_impl_Peg l0 x5_1).f0) != x1_1) = false := bne_eq_false_iff_eq.mpr c5; clear c5
     by_cases c6 : ((rd_impl_Peg l0 x5_1).f1) = (wrap64 (x1_1 + 1))
     ·rw [if_pos c6] at H; have c6b0 : (((rd_impl_Peg l0 x5_1).f1) == (wrap64 (x1_1 + 1))) = true := beq_iff_eq.mpr c6; have c6b1 : (((rd_impl_Peg l0 x5_1).f1) != (wrap64 (x1_1 + 1))) = false := bne_eq_false_iff_eq.mpr c6; clear c6; have H' := aM H; clear H; have p497 : 0 ≤ (x5_1 : Int) := dT aQ; have q497 : x5_1 < (l0.length : Int) := dT aQ; obtain ⟨ad497, e497, hx497_0, hx497_1⟩ := at_impl_Peg HR0.out x5_1 p497 q497
      cases e497
      replace p497 := eq_true p497; replace q497 := eq_true q497; have p498 : 0 ≤ (x5_1 : Int) := dT aQ; have q498 : x5_1 < (l0.length : Int) := dT aQ; obtain ⟨ad498, e498, hx498_0, hx498_1⟩ := at_impl_Peg HR0.out x5_1 p498 q498; obtain rfl : ad497 = ad498 := (by injection e498)
      replace p498 := eq_true p498; replace q498 := eq_true q498; go_wp2
      go_roundg k1
      case measure => have := HK1.out; omega
      case rel => exact ⟨(wrap64 ((wrap64 (x1_1 + 1)) + 1)), (wrap64 (x5_1 + 1)), eQ, eQ, H', ⟨by have := HK1.out; omega⟩, dQ⟩
     ·rw [if_neg c6] at H; have c6b0 : (((rd_impl_Peg l0 x5_1).f1) == (wrap64 (x1_1 + 1))) = false := beq_eq_false_iff_ne.mpr c6; have c6b1 : (((rd_impl_Peg l0 x5_1).f1) != (wrap64 (x1_1 + 1))) = true := bne_iff_ne.mpr c6; obtain rfl := Option.some.inj H; have p497 : 0 ≤ (x5_1 : Int) := dT aQ; have q497 : x5_1 < (l0.length : Int) := dT aQ; obtain ⟨ad497, e497, hx497_0, hx497_1⟩ := at_impl_Peg HR0.out x5_1 p497 q497
      cases e497
      replace p497 := eq_true p497; replace q497 := eq_true q497; have p498 : 0 ≤ (x5_1 : Int) := dT aQ; have q498 : x5_1 < (l0.length : Int) := dT aQ; obtain ⟨ad498, e498, hx498_0, hx498_1⟩ := at_impl_Peg HR0.out x5_1 p498 q498; obtain rfl : ad497 = ad498 := (by injection e498)
      replace p498 := eq_true p498; replace q498 := eq_true q498; go_wp2
      go_ret
      exact ⟨eQ, dQ⟩
    ·rw [if_neg c5] at H; have c5b0 : (((rd_impl_Peg l0 x5_1).f0) == x1_1) = false := beq_eq_false_iff_ne.mpr c5; have c5b1 : (((rd_impl_Peg l0 x5_1).f0) != x1_1) = true := bne_iff_ne.mpr c5; obtain rfl := Option.some.inj H; have p497 : 0 ≤ (x5_1 : Int) := dT aQ; have q497 : x5_1 < (l0.length : Int) := dT aQ; obtain ⟨ad497, e497, hx497_0, hx497_1⟩ := at_impl_Peg HR0.out x5_1 p497 q497
     cases e497
     replace p497 := eq_true p497; replace q497 := eq_true q497; go_wp2
     go_ret
     exact ⟨eQ, dQ⟩
   ·rw [if_neg c3] at H; have c3b0 := decide_eq_false c3; clear c3; obtain rfl := Option.some.inj H; go_wp2
    go_ret
    exact ⟨eQ, dQ⟩

end Go.Proofs.Ytoeclfihlhmnpaa.X
