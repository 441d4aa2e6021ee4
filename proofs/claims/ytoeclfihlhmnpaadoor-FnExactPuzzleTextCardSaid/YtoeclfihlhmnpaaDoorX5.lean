-- thin
-- short
-- compact
import Derived.Test.YtoeclfihlhmnpaaDoorXA
import Derived.Test.YtoeclfihlhmnpaaDoorX0
import Derived.Test.YtoeclfihlhmnpaaDoorX4
namespace Go.Proofs.YtoeclfihlhmnpaaDoor.X
open Go.RowKit Go.Proofs.YtoeclfihlhmnpaaDoor.XW Go.Proofs.YtoeclfihlhmnpaaDoorW.PrintWords Go.Proofs.YtoeclfihlhmnpaaDoorW.PrintLast Go.Proofs.YtoeclfihlhmnpaaDoorW.PrintMore
attribute [local go_sem] max2_int min2_int max_two min_two max_three min_three max_four min_four   -- for this text's walks alone
set_option linter.unusedVariables false
set_option linter.unusedSimpArgs false

def laws_toClueS.l0 : Nat → List (S_laws_Clue) → List (S_impl_Clue) → Int → Option ((List (S_impl_Clue)))
 | 0, _, _, _ => none
 | k + 1, x0, x3, x4 => if x4 < (x0.length : Int) then (if 0 ≤ x4 then ((laws_toClue.f ((rd_laws_Clue x0 x4).f0) ((rd_laws_Clue x0 x4).f1) ((rd_laws_Clue x0 x4).f2) ((rd_laws_Clue x0 x4).f3)).bind fun bt154 => (if x4 < (x3.length : Int) then (laws_toClueS.l0 k x0 (x3.set (x4 : Int).toNat (⟨bt154.1, bt154.2.1, bt154.2.2.1, bt154.2.2.2⟩ : S_impl_Clue)) (wrap64 (x4 + 1))) else (none))) else (none)) else (some x3)
def laws_toClueS.f (k : Nat) (l0 : List (S_laws_Clue)) : Option ((List (S_impl_Clue))) := if 0 ≤ (l0.length : Int) then (if ((l0.length : Int) : Int).toNat ≤ 8796093022208 then (laws_toClueS.l0 k l0 (List.replicate ((l0.length : Int) : Int).toNat z_impl_Clue) 0) else (none)) else (none)
theorem laws_toClueS.mono_l : ∀ k, (∀ y0 y1 y2, LeO (laws_toClueS.l0 k y0 y1 y2) (laws_toClueS.l0 (k + 1) y0 y1 y2))
 | 0 => fun _ _ _ r h => by simp [laws_toClueS.l0] at h
 | k + 1 => by
  have ih0 := laws_toClueS.mono_l k
  ·intro y0 y1 y2
   unfold laws_toClueS.l0
   repeat' first
   | (with_reducible exact ih0 _ _ _)
   | (with_reducible exact LeO.refl _)
   | (with_reducible exact LeO.none _)
   | (with_reducible refine LeO.ite ?_ ?_)
   | (with_reducible refine LeO.bind ?_ (fun _ => ?_))
   | exact ih0 _ _ _
   | exact LeO.none _
   | refine LeO.ite ?_ ?_
   | refine LeO.bind ?_ (fun _ => ?_)
theorem laws_toClueS.mono : ∀ a0 k, LeO (laws_toClueS.f k a0) (laws_toClueS.f (k + 1) a0) := by
 intro a0 k
 have ih0 := laws_toClueS.mono_l k
 unfold laws_toClueS.f
 repeat' first | (with_reducible exact ih0 _ _ _) | (with_reducible exact LeO.refl _) | (with_reducible exact LeO.none _) | (with_reducible refine LeO.ite ?_ ?_) | (with_reducible refine LeO.bind ?_ (fun _ => ?_)) | exact ih0 _ _ _ | exact LeO.none _ | refine LeO.ite ?_ ?_ | refine LeO.bind ?_ (fun _ => ?_)
set_option maxHeartbeats 8000000 in
set_option maxRecDepth 100000 in
theorem laws_toClueS.calls (k : Nat) (A0 : Option Addr) (c0 : Nat) (l0 : List (S_laws_Clue)) (r : List (S_impl_Clue)) (w : World) (hr0 : Kd.C kd_laws_Clue w A0 l0.length l0) (hc0 : l0.length ≤ c0) (h : laws_toClueS.f k l0 = some r) :
  Calls Tryd.prog 26 #[.slice A0 l0.length c0] w fun e w' => ∃ v0_ : Value, e = .returned (v0_) ∧ Kd.R kd_impl_Clue 48 w' w.heap.size (fun _ => True) v0_ r ∧ Below w.heap.size w w' := by
 have hu67 := Tryd.underlying67; have hu48 := Tryd.underlying48; have HR0 := aM hr0; have HC0 := aM hc0; clear hr0 hc0; have HB := aM (Below.refl w.heap.size w)
 unfold laws_toClueS.f at h; have H := h; clear h
 replace H := iN H; obtain ⟨c2, H⟩ := H; have c2b0 := eq_true c2; have c2b1 := dE c2; clear c2; replace H := iN H; obtain ⟨c3, H⟩ := H; have c3b0 := eq_true c3; have c3b1 := dE c3; clear c3; obtain ⟨y150, hy150⟩ : ∃ y_ : List (S_impl_Clue), y_ = (List.replicate ((l0.length : Int) : Int).toNat z_impl_Clue) := ⟨_, rfl⟩; rw [← hy150] at H; have Ny150 := aM hy150; clear hy150; have H' := aM H; clear H
 go_enter Tryd.func26, Tryd.ntmps26
 go_wp2_with (first | ((with_reducible refine gate_dst (N := 7) rfl ?_); refine Kd.R_make kd_impl_Clue _ 48 rfl (N := 7) rfl 22 _ _ rfl (l0.length : Int) rfl rfl Tryd.underlying22 (.agg #[(.int .i64 0), (.int .i64 0), (.int .i64 0), (.int .i64 0)]) 32 info48 rfl (by decide) (by omega) z_impl_Clue (ok := fun _ => True) (okp := fun _ => True) (kd_impl_Clue_mkM _ _ _ z_impl_Clue ) (fun _ hk => hk) trivial (dT aQ) (Nat.le_trans (Nat.mul_le_mul_right _ (dT aQ : (l0.length : Int).toNat ≤ 8796093022208)) (by omega)) (Below.refl _ _) (Nat.le_refl _) ?_; intro v151 w4 ho5 hb hg_ hnew_; clear hg_ hnew_; (first | rw [← Ny150.out] at ho5 | (simp only [Int.reduceToNat] at ho5; rw [← Ny150.out] at ho5)); have HO152 := aM (Kd.R_lower ho5 (pZ bQ)); replace HB := tB HB hb; clear hb ho5))
 go_loopg [4] k (fun kq v4 w' => ∃ (x3_1 : List (S_impl_Clue)) (x4_1 : Int), v4 = .int .i64 x4_1 ∧ Aside0 (laws_toClueS.l0 kq l0 x3_1 x4_1 = some r) ∧ Aside0 (kq ≤ k) ∧ Aside0 (Kd.R kd_impl_Clue 48 w' w.heap.size (fun _ => True) v151 x3_1) ∧ Aside0 (Below w.heap.size w w'))
 case atStart => exact ⟨(y150), (0), eQ, H', ⟨Nat.le_refl _⟩, ⟨by (with_reducible repeat (first | apply rA | apply rN | apply rD)); exact HO152.out⟩, ⟨bQ⟩⟩
 case round =>
  clear H'; (try clear c2); (try clear c2b0); (try clear c2b1); (try clear c3); (try clear c3b0); (try clear c3b1); obtain ⟨x3_1, x4_1, rfl, HA, HK1, HO_3, HB⟩ := hrel
  cases gk with
  | zero => exact absurd HA.out (by simp [laws_toClueS.l0])
  | succ k1 =>
   have H := HA.out; clear HA
   simp only [laws_toClueS.l0] at H
   by_cases c6 : x4_1 < (l0.length : Int)
   ·rw [if_pos c6] at H; have c6b0 := dE c6; clear c6; replace H := iD H; obtain ⟨c7b0, H⟩ := H; replace H := bS H; obtain ⟨⟨t154, t155, t156, t157⟩, A8, H⟩ := H; replace H := iD H; obtain ⟨c9b0, H⟩ := H; obtain ⟨y158, hy158⟩ : ∃ y_ : List (S_impl_Clue), y_ = (x3_1.set (x4_1 : Int).toNat (⟨t154, t155, t156, t157⟩ : S_impl_Clue)) := ⟨_, rfl⟩; rw [← hy158] at H; have Ny158 := aM hy158; clear hy158; have H' := aM H; clear H; have p153 : 0 ≤ (x4_1 : Int) := dT aQ; have q153 : x4_1 < (l0.length : Int) := dT aQ; obtain ⟨ad153, e153, hx153_0, hx153_1, hx153_2, hx153_3⟩ := at_laws_Clue HR0.out x4_1 p153 q153
    cases e153
    replace hx153_0 := hC HB hx153_0; replace hx153_1 := hC HB hx153_1; replace hx153_2 := hC HB hx153_2; replace hx153_3 := hC HB hx153_3; replace p153 := eq_true p153; replace q153 := eq_true q153
    go_wp2_with (first | ((with_reducible refine gC (f := 43) rfl ?_); refine goesL_ (some 20) rfl rfl Tryd.func43 kR rfl #[.agg #[.int .i64 ((rd_laws_Clue l0 x4_1).f0), .int .i64 ((rd_laws_Clue l0 x4_1).f1), .int .i64 ((rd_laws_Clue l0 x4_1).f2), .int .i64 ((rd_laws_Clue l0 x4_1).f3)]] rfl sQ ?_; (with_reducible refine (laws_toClue.calls ((rd_laws_Clue l0 x4_1).f0) ((rd_laws_Clue l0 x4_1).f1) ((rd_laws_Clue l0 x4_1).f2) ((rd_laws_Clue l0 x4_1).f3) t154 t155 t156 t157 _ A8.out).mono ?_); rintro e w11 ⟨rfl, hb⟩; refine ⟨_, rfl, ?_⟩; replace HO_3 := aM (Kd.R_below (by (with_reducible repeat (first | apply rA | apply rN | apply rD)); exact HO_3.out) hb); replace HB := tB HB hb; (try clear hb); (try clear hb2); (try clear hk); (try clear hi); have p10 : 0 ≤ (x4_1 : Int) := dT aQ; have q10 : (x4_1 : Int) < ((x3_1.length : Int) : Int) := dT aQ; obtain ⟨go10, co10, eo10, gb10, gl10, cl10, HG10⟩ := Kd.R_form HO_3.out (by omega); (first | cases eo10 | (injection eo10 with ea_ en_ ec_; (first | subst ea_ | (injection ea_ with ea_; subst ea_)); subst ec_; clear en_)); have GB10 := aM gb10; have GG10 := aM HG10; clear gb10 gl10 HG10; obtain ⟨ce10, hcl10, hM10, hcc10, hfr10⟩ := Kd.R_elem HO_3.out z_impl_Clue (x4_1 : Int) p10 q10; obtain rfl := kd_impl_Clue_openM hM10; have hx10_0 : w11.cell? ⟨go10, (x4_1 : Int).toNat * 4, none⟩ = some (.int .i64 ((rd_impl_Clue x3_1 x4_1).f0)) := hcc10 0 _ rfl; have hx10_1 : w11.cell? ⟨go10, (x4_1 : Int).toNat * 4 + 1, none⟩ = some (.int .i64 ((rd_impl_Clue x3_1 x4_1).f1)) := hcc10 1 _ rfl; have hx10_2 : w11.cell? ⟨go10, (x4_1 : Int).toNat * 4 + 2, none⟩ = some (.int .i64 ((rd_impl_Clue x3_1 x4_1).f2)) := hcc10 2 _ rfl; have hx10_3 : w11.cell? ⟨go10, (x4_1 : Int).toNat * 4 + 3, none⟩ = some (.int .i64 ((rd_impl_Clue x3_1 x4_1).f3)) := hcc10 3 _ rfl; have hf10_0 : w11.frozen? ⟨go10, (x4_1 : Int).toNat * 4, none⟩ = false := hfr10 0; have hf10_1 : w11.frozen? ⟨go10, (x4_1 : Int).toNat * 4 + 1, none⟩ = false := hfr10 1; have hf10_2 : w11.frozen? ⟨go10, (x4_1 : Int).toNat * 4 + 2, none⟩ = false := hfr10 2; have hf10_3 : w11.frozen? ⟨go10, (x4_1 : Int).toNat * 4 + 3, none⟩ = false := hfr10 3; clear hcl10 hcc10 hfr10 hM10; replace p10 := eq_true p10; replace q10 := eq_true q10; have HX12 := aM (show Kd.R kd_impl_Clue 48 w11 w.heap.size (fun _ => True) (.slice (some ⟨go10, 0, none⟩) x3_1.length co10) x3_1 from (by (with_reducible repeat (first | apply rA | apply rN | apply rD)); exact HO_3.out)); obtain ⟨ce12, hcl12, hM12, hcc12, hfr12⟩ := Kd.R_elem HX12.out z_impl_Clue (x4_1 : Int) (dT aQ) (by have h_ : (x4_1 : Int) < ((x3_1.length : Int) : Int) := dT aQ; first | exact h_ | (have e_ := (rR HO_3.out).1; omega) | simpa using h_); obtain rfl := kd_impl_Clue_openM hM12; have HP12 := Kd.R_seg HX12.out (x4_1 : Int) (dT aQ) (by have h_ : (x4_1 : Int) < ((x3_1.length : Int) : Int) := dT aQ; first | exact h_ | (have e_ := (rR HO_3.out).1; omega) | simpa using h_) (seg := [.int .i64 t154, .int .i64 t155, .int .i64 t156, .int .i64 t157]) (j := 0) hcl12 hcc12 (show 4 ≤ 4 from by decide) (x' := (⟨t154, t155, t156, t157⟩ : S_impl_Clue)) (kd_impl_Clue_mkM _ _ _ (⟨t154, t155, t156, t157⟩ : S_impl_Clue) ) (fun _ hk => hk); have hx12_0 := hcc12 0 _ rfl; (try simp only [show (kd_impl_Clue).sz = 4 from rfl, Nat.mul_one, Nat.add_zero] at hx12_0); have hf12_0 := hfr12 0; (try simp only [show (kd_impl_Clue).sz = 4 from rfl, Nat.mul_one, Nat.add_zero] at hf12_0); have hx12_1 := hcc12 1 _ rfl; (try simp only [show (kd_impl_Clue).sz = 4 from rfl, Nat.mul_one, Nat.add_zero] at hx12_1); have hf12_1 := hfr12 1; (try simp only [show (kd_impl_Clue).sz = 4 from rfl, Nat.mul_one, Nat.add_zero] at hf12_1); have hx12_2 := hcc12 2 _ rfl; (try simp only [show (kd_impl_Clue).sz = 4 from rfl, Nat.mul_one, Nat.add_zero] at hx12_2); have hf12_2 := hfr12 2; (try simp only [show (kd_impl_Clue).sz = 4 from rfl, Nat.mul_one, Nat.add_zero] at hf12_2); have hx12_3 := hcc12 3 _ rfl; (try simp only [show (kd_impl_Clue).sz = 4 from rfl, Nat.mul_one, Nat.add_zero] at hx12_3); have hf12_3 := hfr12 3; (try simp only [show (kd_impl_Clue).sz = 4 from rfl, Nat.mul_one, Nat.add_zero] at hf12_3); clear hcl12 hcc12 hfr12 hM12) | ((with_reducible refine gate_store (t := 48) (p := 21) rfl ?_); refine store_event (t := 48) (p := 21) (v := ?vo_w13) (w1 := ((((w11.setCell ⟨go10, (x4_1 : Int).toNat * 4, none⟩ (.int .i64 t154)).setCell ⟨go10, (x4_1 : Int).toNat * 4 + 1, none⟩ (.int .i64 t155)).setCell ⟨go10, (x4_1 : Int).toNat * 4 + 2, none⟩ (.int .i64 t156)).setCell ⟨go10, (x4_1 : Int).toNat * 4 + 3, none⟩ (.int .i64 t157))) ?hg ?ho ?hn ?hr ?_; (case ho => rfl); (case hg => rfl); (case hn => rfl); (case hr => first | (go_simp; done) | (go_simp; rfl)); intro w13 hw; have hg : w11.grownBy w13 (some go10) := (by rw [hw]; exact HP12.2); have hp_ : Kd.R kd_impl_Clue 48 w13 w.heap.size (fun _ => True) (.slice (some ⟨go10, 0, none⟩) x3_1.length co10) y158 := (by rw [hw, Ny158.out]; exact HP12.1); clear HP12; replace HO_3 := aM (hp_); replace HB := aM ((by rw [hw]; exact pS (pS (pS (pS (HB.out) GB10.out) GB10.out) GB10.out) GB10.out : Below w.heap.size w w13)); clear hg hw hp_))
    go_roundg k1
    case measure => have := HK1.out; omega
    case rel => exact ⟨(y158), (wrap64 (x4_1 + 1)), eQ, H', ⟨by have := HK1.out; omega⟩, ⟨by (with_reducible repeat (first | apply rA | apply rN | apply rD)); exact HO_3.out⟩, ⟨bQ⟩⟩
   ·rw [if_neg c6] at H; have c6b0 := decide_eq_false c6; clear c6; obtain rfl := Option.some.inj H; go_wp2
    go_ret
    exact ⟨_, by first | rfl | (simp [errW_none, errW_some] <;> rfl) | (simp [*, errW_none, errW_some] <;> rfl), by (with_reducible repeat (first | apply rA | apply rN | apply rD)); exact HO_3.out, bQ⟩
def laws_toPuzzle.f (k : Nat) (a0_0 : Int) (l0_1 : List (S_laws_Clue)) : Option (Int × (List (S_impl_Clue))) := (laws_toClueS.f k l0_1).bind fun t162 => (some (a0_0, t162))
theorem laws_toPuzzle.mono : ∀ a0 a1 k, LeO (laws_toPuzzle.f k a0 a1) (laws_toPuzzle.f (k + 1) a0 a1) := by
 intro a0 a1 k
 unfold laws_toPuzzle.f
 repeat' first | (with_reducible exact laws_toClueS.mono _ _) | (with_reducible exact LeO.refl _) | (with_reducible exact LeO.none _) | (with_reducible refine LeO.ite ?_ ?_) | (with_reducible refine LeO.bind ?_ (fun _ => ?_)) | exact laws_toClueS.mono _ _ | exact LeO.none _ | refine LeO.ite ?_ ?_ | refine LeO.bind ?_ (fun _ => ?_)
set_option maxHeartbeats 8000000 in
set_option maxRecDepth 100000 in
theorem laws_toPuzzle.calls (k : Nat) (a0_0 : Int) (A0_1 : Option Addr) (c0_1 : Nat) (l0_1 : List (S_laws_Clue)) (r1 : Int) (r2 : List (S_impl_Clue)) (w : World) (hr0_1 : Kd.C kd_laws_Clue w A0_1 l0_1.length l0_1) (hc0_1 : l0_1.length ≤ c0_1) (h : laws_toPuzzle.f k a0_0 l0_1 = some (r1, r2)) :
  Calls Tryd.prog 12 #[.agg #[.int .i64 a0_0, .slice A0_1 l0_1.length c0_1]] w fun e w' => ∃ v1_ : Value, e = .returned (.agg #[.int .i64 r1, v1_]) ∧ Kd.R kd_impl_Clue 48 w' w.heap.size (fun _ => True) v1_ r2 ∧ Below w.heap.size w w' := by
 have hu32 := Tryd.underlying32; have hu24 := Tryd.underlying24; have HR0_1 := aM hr0_1; have HC0_1 := aM hc0_1; clear hr0_1 hc0_1; have HB := aM (Below.refl w.heap.size w)
 unfold laws_toPuzzle.f at h; have H := h; clear h
 replace H := bS H; obtain ⟨t162, A2, H⟩ := H
 simp only [Option.some.injEq, Prod.mk.injEq] at H
 obtain ⟨rfl, rfl⟩ := H
 go_enter Tryd.func12, Tryd.ntmps12
 go_wp2_with (first | ((with_reducible refine gate_dst (N := 1) rfl ?_); refine bV 1 (cs := #[.int .i64 a0_0, .slice A0_1 l0_1.length c0_1]) (t := 32) rfl rfl (by first | (go_simp; done) | (go_simp; rfl)) ?_; intro gb159 hg w3 hbox hb; have BK159 := hbox; have GW159 := gZ HB hg; have GE159 := gZ HB hg; replace HB := tB HB hb; clear hb hbox hg) | ((with_reducible refine gate_dst (N := 2) rfl ?_); refine bV 2 (cs := #[.int .i64 0, .slice none 0 0]) (t := 24) rfl rfl (by first | (go_simp; done) | (go_simp; rfl)) ?_; intro gb160 hg w4 hbox hb; have BK160 := hbox; have GW160 := gZ HB hg; have GE160 := gZ HB hg; have NB159_160 := nG BK159 hg; have NB160_159 := nH BK159 hg; replace BK159 := bB BK159 hb; replace HB := tB HB hb; clear hb hbox hg) | ((with_reducible refine gate_dst (N := 3) rfl ?_); refine bV 3 (cs := #[.int .i64 0, .slice none 0 0]) (t := 24) rfl rfl (by first | (go_simp; done) | (go_simp; rfl)) ?_; intro gb161 hg w5 hbox hb; have BK161 := hbox; have GW161 := gZ HB hg; have GE161 := gZ HB hg; have NB159_161 := nG BK159 hg; have NB161_159 := nH BK159 hg; have NB160_161 := nG BK160 hg; have NB161_160 := nH BK160 hg; replace BK159 := bB BK159 hb; replace BK160 := bB BK160 hb; replace HB := tB HB hb; clear hb hbox hg; have hnb6 := NB159_160.out; have hnc6 := NB160_159.out; have hnb7 := NB159_161.out; have hnc7 := NB161_159.out; have hcz8_0 := vZ0 BK159; have hcz8_1 := vZ1 BK159; have hfz8_0 := kF BK159.out 0; have hfz8_1 := kF BK159.out 1; have hnb9 := NB161_160.out; have hnc9 := NB160_161.out; have hcz10_0 := vZ0 BK161; have hcz10_1 := vZ1 BK161; have hfz10_0 := kF BK161.out 0; have hfz10_1 := kF BK161.out 1) | ((with_reducible refine gC (f := 26) rfl ?_); refine goesL_ (some 9) rfl rfl Tryd.func26 kR rfl #[.slice A0_1 l0_1.length c0_1] rfl sQ ?_; (with_reducible refine (laws_toClueS.calls k _ _ l0_1 t162 _ ?side1 ?side2 A2.out).mono ?_); (case side1 => exact Kd.C_below HR0_1.out bE); (case side2 => exact HC0_1.out); rintro e w11 ⟨v163, rfl, ho0, hb⟩; refine ⟨_, rfl, ?_⟩; have HO164 := aM (Kd.R_lower ho0 (pZ bE)); replace BK159 := aM (blk_below (g := gb159) (o := .cells #[.int .i64 a0_0, .slice A0_1 l0_1.length c0_1] 32 (0, 0)) (fQ BK159) hb); replace BK160 := aM (blk_below (g := gb160) (o := .cells #[.int .i64 0, .slice none 0 0] 24 (0, 0)) (fQ BK160) hb); replace BK161 := aM (blk_below (g := gb161) (o := .cells #[.int .i64 a0_0, .slice none 0 0] 24 (0, 0)) (fQ BK161) hb); replace HB := tB HB hb; (try clear hb); (try clear hb2); (try clear hk); (try clear hi); (try clear ho0); obtain ⟨Ao12, co12, eo12⟩ := Kd.R_slice HO164.out; subst eo12; have hcz13_0 := vZ0 BK161; have hcz13_1 := vZ1 BK161; have hfz13_0 := kF BK161.out 0; have hfz13_1 := kF BK161.out 1; have hcz14_0 := vZ0 BK160; have hcz14_1 := vZ1 BK160; have hfz14_0 := kF BK160.out 0; have hfz14_1 := kF BK160.out 1))
 refine bodyPost_ret (results_cell_row rfl _ _ gb160 24 #[.int .i64 a0_0, .slice Ao12 t162.length co12] (0, 0) _ rfl (fQ BK160) Tryd.underlying24 rfl kR) rfl ?_
 exact ⟨_, by first | rfl | (simp [errW_none, errW_some] <;> rfl) | (simp [*, errW_none, errW_some] <;> rfl), by (with_reducible repeat (first | apply rA | apply rN | apply rD)); exact Kd.R_mono (Kd.R_far (p := ⟨gb160, 1, none⟩) (Kd.R_far (p := ⟨gb160, 0, none⟩) (Kd.R_far (p := ⟨gb161, 1, none⟩) (Kd.R_types (Kd.R_types HO164.out BK161.out (by decide)) BK160.out (by decide)) (fun _ hk => hk.1.2) (.slice Ao12 t162.length co12)) (fun _ hk => hk.2) (.int .i64 a0_0)) (fun _ hk => hk.2) (.slice Ao12 t162.length co12)) (fun _ hk => trivial), bE⟩

def impl_within.f (a0 : Int) (a1 : Int) (a2 : Int) : Option (Bool) := if a0 ≥ a1 then (some (decide (a0 ≤ a2))) else (some false)
set_option maxHeartbeats 8000000 in
set_option maxRecDepth 100000 in
theorem impl_within.calls (a0 : Int) (a1 : Int) (a2 : Int) (r : Bool) (w : World) (h : impl_within.f a0 a1 a2 = some r) :
  Calls Tryd.prog 54 #[.int .i64 a0, .int .i64 a1, .int .i64 a2] w fun e w' => e = .returned (.bool r) ∧ Drawn0 w w' := by
 unfold impl_within.f at h; have H := h; clear h
 by_cases c4 : a0 ≥ a1
 ·rw [if_pos c4] at H; have c4b0 := dE c4; clear c4; obtain rfl := Option.some.inj H
  go_enter Tryd.func54, Tryd.ntmps54
  go_wp2
  go_ret
  exact ⟨eQ, dQ⟩
 ·rw [if_neg c4] at H; have c4b0 := decide_eq_false c4; clear c4; obtain rfl := Option.some.inj H
  go_enter Tryd.func54, Tryd.ntmps54
  go_wp2
  go_ret
  exact ⟨eQ, dQ⟩

def impl_isSide.f (a0 : Int) : Option (Bool) := (impl_within.f a0 1 12).bind fun t165 => (some t165)
set_option maxHeartbeats 8000000 in
set_option maxRecDepth 100000 in
theorem impl_isSide.calls (a0 : Int) (r : Bool) (w : World) (h : impl_isSide.f a0 = some r) :
  Calls Tryd.prog 33 #[.int .i64 a0] w fun e w' => e = .returned (.bool r) ∧ Drawn0 w w' := by
 unfold impl_isSide.f at h; have H := h; clear h
 replace H := bS H; obtain ⟨t165, A2, H⟩ := H; obtain rfl := Option.some.inj H
 go_enter Tryd.func33, Tryd.ntmps33
 go_wp2_with (first | ((with_reducible refine gC (f := 54) rfl ?_); refine goesL_ (some 4) rfl rfl Tryd.func54 kR rfl #[.int .i64 a0, .int .i64 1, .int .i64 12] rfl sQ ?_; (with_reducible refine (impl_within.calls a0 1 12 t165 _ A2.out).mono ?_); rintro e w' ⟨rfl, ⟨nd, rfl⟩⟩; refine ⟨_, rfl, ?_⟩))
 go_ret
 exact ⟨eQ, dQ⟩

-- NOT PRINTED: function 55 (slices_IndexFunc_impl_Clue)

-- NOT PRINTED: function 34 (slices_ContainsFunc_impl_Clue)

mutual
def impl_IsClue.j0 : Nat → Int → Bool → Int → Int → Int → Int → Option (Bool)
 | 0, _, _, _, _, _, _ => none
 | k + 1, x0, x33, x167000, x167001, x167002, x167003 => if x33 = true then (some false) else (if x167000 = 0 then (impl_IsClue.j1 k x0 x167000 (x167000 == 0) x167000 x167001 x167002 x167003) else (if x167000 = 1 then (impl_IsClue.j1 k x0 x167000 (x167000 == 1) x167000 x167001 x167002 x167003) else (impl_IsClue.j1 k x0 x167000 (x167000 == 2) x167000 x167001 x167002 x167003)))
def impl_IsClue.j1 : Nat → Int → Int → Bool → Int → Int → Int → Int → Option (Bool)
 | 0, _, _, _, _, _, _, _ => none
 | k + 1, x0, x35, x36, x167000, x167001, x167002, x167003 => if x36 = true then (if x167002 = 0 then (some (x167003 == 0)) else (some false)) else (if x35 = 3 then ((impl_within.f x167003 0 (wrap64 (x0 * x0))).bind fun t170 => (some t170)) else (if x35 = 4 then ((impl_within.f x167003 0 (wrap64 ((wrap64 (2 * x0)) * x0))).bind fun t171 => (some t171)) else (if x35 = 5 then ((impl_within.f x167003 0 1).bind fun t172 => (some t172)) else (some false))))
end
def impl_IsClue.f (k : Nat) (a0 : Int) (a1_0 : Int) (a1_1 : Int) (a1_2 : Int) (a1_3 : Int) : Option (Bool) := (impl_isSide.f a0).bind fun t167 => (if t167 = true then ((impl_within.f a1_1 0 (wrap64 (2 * a0))).bind fun t168 => (if t168 = true then ((impl_within.f a1_2 0 a0).bind fun t169 => (if t169 = true then (if a1_0 = 2 then (impl_IsClue.j0 k a0 false a1_0 a1_1 a1_2 a1_3) else (impl_IsClue.j0 k a0 (decide (a1_1 > a0)) a1_0 a1_1 a1_2 a1_3)) else (impl_IsClue.j0 k a0 true a1_0 a1_1 a1_2 a1_3))) else (impl_IsClue.j0 k a0 true a1_0 a1_1 a1_2 a1_3))) else (impl_IsClue.j0 k a0 true a1_0 a1_1 a1_2 a1_3))
theorem impl_IsClue.mono_l : ∀ k, (∀ y0 y1 y2 y3 y4 y5, LeO (impl_IsClue.j0 k y0 y1 y2 y3 y4 y5) (impl_IsClue.j0 (k + 1) y0 y1 y2 y3 y4 y5)) ∧ (∀ y0 y1 y2 y3 y4 y5 y6, LeO (impl_IsClue.j1 k y0 y1 y2 y3 y4 y5 y6) (impl_IsClue.j1 (k + 1) y0 y1 y2 y3 y4 y5 y6))
 | 0 => ⟨fun _ _ _ _ _ _ r h => by simp [impl_IsClue.j0] at h, fun _ _ _ _ _ _ _ r h => by simp [impl_IsClue.j1] at h⟩
 | k + 1 => by
  obtain ⟨ih0, ih1⟩ := impl_IsClue.mono_l k
  refine ⟨?_, ?_⟩ <;> intros <;> (first | unfold impl_IsClue.j0 | unfold impl_IsClue.j1) <;> repeat' first | (with_reducible exact ih0 _ _ _ _ _ _) | (with_reducible exact ih1 _ _ _ _ _ _ _) | (with_reducible exact LeO.refl _) | (with_reducible exact LeO.none _) | (with_reducible refine LeO.ite ?_ ?_) | (with_reducible refine LeO.bind ?_ (fun _ => ?_)) | exact ih0 _ _ _ _ _ _ | exact ih1 _ _ _ _ _ _ _ | exact LeO.none _ | refine LeO.ite ?_ ?_ | refine LeO.bind ?_ (fun _ => ?_)
theorem impl_IsClue.mono : ∀ a0 a1 a2 a3 a4 k, LeO (impl_IsClue.f k a0 a1 a2 a3 a4) (impl_IsClue.f (k + 1) a0 a1 a2 a3 a4) := by
 intro a0 a1 a2 a3 a4 k
 obtain ⟨ih0, ih1⟩ := impl_IsClue.mono_l k
 unfold impl_IsClue.f
 repeat' first | (with_reducible exact ih0 _ _ _ _ _ _) | (with_reducible exact ih1 _ _ _ _ _ _ _) | (with_reducible exact LeO.refl _) | (with_reducible exact LeO.none _) | (with_reducible refine LeO.ite ?_ ?_) | (with_reducible refine LeO.bind ?_ (fun _ => ?_)) | exact ih0 _ _ _ _ _ _ | exact ih1 _ _ _ _ _ _ _ | exact LeO.none _ | refine LeO.ite ?_ ?_ | refine LeO.bind ?_ (fun _ => ?_)
set_option maxHeartbeats 8000000 in
set_option maxRecDepth 100000 in
theorem impl_IsClue.calls (k : Nat) (a0 : Int) (a1_0 : Int) (a1_1 : Int) (a1_2 : Int) (a1_3 : Int) (r : Bool) (w : World) (h : impl_IsClue.f k a0 a1_0 a1_1 a1_2 a1_3 = some r) :
  Calls Tryd.prog 36 #[.int .i64 a0, .agg #[.int .i64 a1_0, .int .i64 a1_1, .int .i64 a1_2, .int .i64 a1_3]] w fun e w' => e = .returned (.bool r) ∧ Below w.heap.size w w' := by
 have hu48 := Tryd.underlying48; have HB := aM (Below.refl w.heap.size w)
 unfold impl_IsClue.f at h; have H := h; clear h
 have HC3 := aM H; clear H
 go_enter Tryd.func36, Tryd.ntmps36
 go_upto_region 1 with (first | ((with_reducible refine gate_dst (N := 3) rfl ?_); refine bV 3 (cs := #[.int .i64 a1_0, .int .i64 a1_1, .int .i64 a1_2, .int .i64 a1_3]) (t := 48) rfl rfl (by first | (go_simp; done) | (go_simp; rfl)) ?_; intro gb166 hg w4 hbox hb; have BK166 := hbox; have GW166 := gZ HB hg; have GE166 := gZ HB hg; replace HB := tB HB hb; clear hb hbox hg))
 (try simp only [Act.put, sI, sZ, sS])
 go_cut [33] (fun v33 wc => ∃ (kq : Nat) (x33_2 : Bool), v33 = .bool x33_2 ∧ Aside0 (impl_IsClue.j0 kq a0 x33_2 a1_0 a1_1 a1_2 a1_3 = some r) ∧ Aside0 (kq ≤ k) ∧ Aside0 (wc.heap[gb166]? = some (.cells #[.int .i64 a1_0, .int .i64 a1_1, .int .i64 a1_2, .int .i64 a1_3] 48 (0, 0))) ∧ Aside0 (Below w.heap.size w wc))
 case first =>
  have H := HC3.out; clear HC3; replace H := bS H; obtain ⟨t167, A5, H⟩ := H
  by_cases c6 : t167 = true
  ·subst c6; replace H := iT H; replace H := bS H; obtain ⟨t168, A7, H⟩ := H
   by_cases c8 : t168 = true
   ·subst c8; replace H := iT H; replace H := bS H; obtain ⟨t169, A9, H⟩ := H
    by_cases c10 : t169 = true
    ·subst c10; replace H := iT H
     by_cases c11 : a1_0 = 2
     ·rw [if_pos c11] at H; have c11b0 : (a1_0 == 2) = true := beq_iff_eq.mpr c11; have c11b1 : (a1_0 != 2) = false := bne_eq_false_iff_eq.mpr c11; clear c11
      (first | rw [c11b0] | (simp only [i64_w, i32_w]; rw [c11b0]) | skip)
      have H' := aM H; clear H
      go_wp2_with (first | ((with_reducible refine gC (f := 33) rfl ?_); refine goesL_ (some 6) rfl rfl Tryd.func33 kR rfl #[.int .i64 a0] rfl sQ ?_; (with_reducible refine (impl_isSide.calls a0 true _ A5.out).mono ?_); rintro e w' ⟨rfl, ⟨nd, rfl⟩⟩; refine ⟨_, rfl, ?_⟩; have hcz12_0 := vZ0 BK166; have hcz12_1 := vZ1 BK166; have hcz12_2 := vZ2 BK166; have hcz12_3 := vZ3 BK166; have hfz12_0 := kF BK166.out 0; have hfz12_1 := kF BK166.out 1; have hfz12_2 := kF BK166.out 2; have hfz12_3 := kF BK166.out 3) | (go_at_call 54; (with_reducible refine (impl_within.calls a1_1 0 (wrap64 (2 * a0)) true _ A7.out).mono ?_); rintro e w' ⟨rfl, ⟨nd, rfl⟩⟩) | (go_at_call 54; (with_reducible refine (impl_within.calls a1_2 0 a0 true _ A9.out).mono ?_); rintro e w' ⟨rfl, ⟨nd, rfl⟩⟩))
      go_meet
      case rel => exact ⟨_, (false), eQ, H', ⟨by first | omega | exact Nat.le_refl _⟩, ⟨gQ BK166⟩, ⟨bE⟩⟩
     ·rw [if_neg c11] at H; have c11b0 : (a1_0 == 2) = false := beq_eq_false_iff_ne.mpr c11; have c11b1 : (a1_0 != 2) = true := bne_iff_ne.mpr c11
      (first | rw [c11b0] | (simp only [i64_w, i32_w]; rw [c11b0]) | skip)
      have H' := aM H; clear H
      go_wp2_with (first | ((with_reducible refine gC (f := 33) rfl ?_); refine goesL_ (some 6) rfl rfl Tryd.func33 kR rfl #[.int .i64 a0] rfl sQ ?_; (with_reducible refine (impl_isSide.calls a0 true _ A5.out).mono ?_); rintro e w' ⟨rfl, ⟨nd, rfl⟩⟩; refine ⟨_, rfl, ?_⟩; have hcz13_0 := vZ0 BK166; have hcz13_1 := vZ1 BK166; have hcz13_2 := vZ2 BK166; have hcz13_3 := vZ3 BK166; have hfz13_0 := kF BK166.out 0; have hfz13_1 := kF BK166.out 1; have hfz13_2 := kF BK166.out 2; have hfz13_3 := kF BK166.out 3) | (go_at_call 54; (with_reducible refine (impl_within.calls a1_1 0 (wrap64 (2 * a0)) true _ A7.out).mono ?_); rintro e w' ⟨rfl, ⟨nd, rfl⟩⟩) | (go_at_call 54; (with_reducible refine (impl_within.calls a1_2 0 a0 true _ A9.out).mono ?_); rintro e w' ⟨rfl, ⟨nd, rfl⟩⟩))
      go_meet
      case rel => exact ⟨_, (decide (a1_1 > a0)), eQ, H', ⟨by first | omega | exact Nat.le_refl _⟩, ⟨gQ BK166⟩, ⟨bE⟩⟩
    ·replace c10 := Bool.eq_false_iff.mpr c10; subst c10; replace H := iF H; have H' := aM H; clear H
     go_wp2_with (first | ((with_reducible refine gC (f := 33) rfl ?_); refine goesL_ (some 6) rfl rfl Tryd.func33 kR rfl #[.int .i64 a0] rfl sQ ?_; (with_reducible refine (impl_isSide.calls a0 true _ A5.out).mono ?_); rintro e w' ⟨rfl, ⟨nd, rfl⟩⟩; refine ⟨_, rfl, ?_⟩; have hcz14_0 := vZ0 BK166; have hcz14_1 := vZ1 BK166; have hcz14_2 := vZ2 BK166; have hcz14_3 := vZ3 BK166; have hfz14_0 := kF BK166.out 0; have hfz14_1 := kF BK166.out 1; have hfz14_2 := kF BK166.out 2; have hfz14_3 := kF BK166.out 3) | (go_at_call 54; (with_reducible refine (impl_within.calls a1_1 0 (wrap64 (2 * a0)) true _ A7.out).mono ?_); rintro e w' ⟨rfl, ⟨nd, rfl⟩⟩) | (go_at_call 54; (with_reducible refine (impl_within.calls a1_2 0 a0 false _ A9.out).mono ?_); rintro e w' ⟨rfl, ⟨nd, rfl⟩⟩))
     go_meet
     case rel => exact ⟨_, (true), eQ, H', ⟨by first | omega | exact Nat.le_refl _⟩, ⟨gQ BK166⟩, ⟨bE⟩⟩
   ·replace c8 := Bool.eq_false_iff.mpr c8; subst c8; replace H := iF H; have H' := aM H; clear H
    go_wp2_with (first | ((with_reducible refine gC (f := 33) rfl ?_); refine goesL_ (some 6) rfl rfl Tryd.func33 kR rfl #[.int .i64 a0] rfl sQ ?_; (with_reducible refine (impl_isSide.calls a0 true _ A5.out).mono ?_); rintro e w' ⟨rfl, ⟨nd, rfl⟩⟩; refine ⟨_, rfl, ?_⟩; have hcz15_0 := vZ0 BK166; have hcz15_1 := vZ1 BK166; have hcz15_2 := vZ2 BK166; have hcz15_3 := vZ3 BK166; have hfz15_0 := kF BK166.out 0; have hfz15_1 := kF BK166.out 1; have hfz15_2 := kF BK166.out 2; have hfz15_3 := kF BK166.out 3) | (go_at_call 54; (with_reducible refine (impl_within.calls a1_1 0 (wrap64 (2 * a0)) false _ A7.out).mono ?_); rintro e w' ⟨rfl, ⟨nd, rfl⟩⟩))
    go_meet
    case rel => exact ⟨_, (true), eQ, H', ⟨by first | omega | exact Nat.le_refl _⟩, ⟨gQ BK166⟩, ⟨bE⟩⟩
  ·replace c6 := Bool.eq_false_iff.mpr c6; subst c6; replace H := iF H; have H' := aM H; clear H
   go_wp2_with (first | ((with_reducible refine gC (f := 33) rfl ?_); refine goesL_ (some 6) rfl rfl Tryd.func33 kR rfl #[.int .i64 a0] rfl sQ ?_; (with_reducible refine (impl_isSide.calls a0 false _ A5.out).mono ?_); rintro e w' ⟨rfl, ⟨nd, rfl⟩⟩; refine ⟨_, rfl, ?_⟩))
   go_meet
   case rel => exact ⟨_, (true), eQ, H', ⟨by first | omega | exact Nat.le_refl _⟩, ⟨gQ BK166⟩, ⟨bE⟩⟩
 case rest =>
  clear HC3; obtain ⟨kq, x33_2, rfl, HA, HJ2, BK166, HB⟩ := hcut
  cases kq with
  | zero => exact absurd HA.out (by simp [impl_IsClue.j0])
  | succ kj2 =>
   have H := HA.out; clear HA
   simp only [impl_IsClue.j0] at H
   by_cases c16 : x33_2 = true
   ·subst c16; replace H := iT H; obtain rfl := Option.some.inj H; go_wp2
    go_ret
    exact ⟨wQ, bE⟩
   ·replace c16 := Bool.eq_false_iff.mpr c16; subst c16; replace H := iF H; have HC17 := aM H; clear H; have hcz18_0 : wc.cell? ⟨gb166, 0, none⟩ = some (.int .i64 a1_0) := vZ0 BK166; have hcz18_1 : wc.cell? ⟨gb166, 1, none⟩ = some (.int .i64 a1_1) := vZ1 BK166; have hcz18_2 : wc.cell? ⟨gb166, 2, none⟩ = some (.int .i64 a1_2) := vZ2 BK166; have hcz18_3 : wc.cell? ⟨gb166, 3, none⟩ = some (.int .i64 a1_3) := vZ3 BK166; have hfz18_0 := kF BK166.out 0; have hfz18_1 := kF BK166.out 1; have hfz18_2 := kF BK166.out 2; have hfz18_3 := kF BK166.out 3
    go_upto_if 36 with (fail)
    go_cut [36] (fun v36 wc => ∃ (kq : Nat) (x36_16 : Bool), v36 = .bool x36_16 ∧ Aside0 (impl_IsClue.j1 kq a0 a1_0 x36_16 a1_0 a1_1 a1_2 a1_3 = some r) ∧ Aside0 (kq ≤ kj2) ∧ Aside0 (wc.heap[gb166]? = some (.cells #[.int .i64 a1_0, .int .i64 a1_1, .int .i64 a1_2, .int .i64 a1_3] 48 (0, 0))) ∧ Aside0 (Below w.heap.size w wc))
    case first =>
     have H := HC17.out; clear HC17
     by_cases c19 : a1_0 = 0
     ·rw [if_pos c19] at H; have c19b0 : (a1_0 == 0) = true := beq_iff_eq.mpr c19; have c19b1 : (a1_0 != 0) = false := bne_eq_false_iff_eq.mpr c19; clear c19
      (first | rw [c19b0] | (simp only [i64_w, i32_w]; rw [c19b0]) | skip)
      have H' := aM H; clear H; go_wp2
      go_meet
      case rel => exact ⟨_, ((a1_0 == 0)), eQ, H', ⟨by have := HJ2.out; first | omega | exact Nat.le_refl _⟩, ⟨gQ BK166⟩, ⟨bE⟩⟩
     ·rw [if_neg c19] at H; have c19b0 : (a1_0 == 0) = false := beq_eq_false_iff_ne.mpr c19; have c19b1 : (a1_0 != 0) = true := bne_iff_ne.mpr c19
      (first | rw [c19b0] | (simp only [i64_w, i32_w]; rw [c19b0]) | skip)
      by_cases c20 : a1_0 = 1
      ·rw [if_pos c20] at H; have c20b0 : (a1_0 == 1) = true := beq_iff_eq.mpr c20; have c20b1 : (a1_0 != 1) = false := bne_eq_false_iff_eq.mpr c20; clear c20; have H' := aM H; clear H; go_wp2
       go_meet
       case rel => exact ⟨_, ((a1_0 == 1)), eQ, H', ⟨by have := HJ2.out; first | omega | exact Nat.le_refl _⟩, ⟨gQ BK166⟩, ⟨bE⟩⟩
      ·rw [if_neg c20] at H; have c20b0 : (a1_0 == 1) = false := beq_eq_false_iff_ne.mpr c20; have c20b1 : (a1_0 != 1) = true := bne_iff_ne.mpr c20; have H' := aM H; clear H; go_wp2
       go_meet
       case rel => exact ⟨_, ((a1_0 == 2)), eQ, H', ⟨by have := HJ2.out; first | omega | exact Nat.le_refl _⟩, ⟨gQ BK166⟩, ⟨bE⟩⟩
    case rest =>
     clear HC17; (try clear c16); (try clear hcz18_0); (try clear hcz18_1); (try clear hcz18_2); (try clear hcz18_3); (try clear hfz18_0); (try clear hfz18_1); (try clear hfz18_2); (try clear hfz18_3); obtain ⟨kq, x36_16, rfl, HA, HJ16, BK166, HB⟩ := hcut
     cases kq with
     | zero => exact absurd HA.out (by simp [impl_IsClue.j1])
     | succ kj16 =>
      have H := HA.out; clear HA
      simp only [impl_IsClue.j1] at H
      by_cases c21 : x36_16 = true
      ·subst c21; replace H := iT H
       by_cases c22 : a1_2 = 0
       ·rw [if_pos c22] at H; have c22b0 : (a1_2 == 0) = true := beq_iff_eq.mpr c22; have c22b1 : (a1_2 != 0) = false := bne_eq_false_iff_eq.mpr c22; clear c22; obtain rfl := Option.some.inj H; have hcz23_0 : wc.cell? ⟨gb166, 0, none⟩ = some (.int .i64 a1_0) := vZ0 BK166; have hcz23_1 : wc.cell? ⟨gb166, 1, none⟩ = some (.int .i64 a1_1) := vZ1 BK166; have hcz23_2 : wc.cell? ⟨gb166, 2, none⟩ = some (.int .i64 a1_2) := vZ2 BK166; have hcz23_3 : wc.cell? ⟨gb166, 3, none⟩ = some (.int .i64 a1_3) := vZ3 BK166; have hfz23_0 := kF BK166.out 0; have hfz23_1 := kF BK166.out 1; have hfz23_2 := kF BK166.out 2; have hfz23_3 := kF BK166.out 3; go_wp2
        go_ret
        exact ⟨wQ, bE⟩
       ·rw [if_neg c22] at H; have c22b0 : (a1_2 == 0) = false := beq_eq_false_iff_ne.mpr c22; have c22b1 : (a1_2 != 0) = true := bne_iff_ne.mpr c22; obtain rfl := Option.some.inj H; have hcz24_0 : wc.cell? ⟨gb166, 0, none⟩ = some (.int .i64 a1_0) := vZ0 BK166; have hcz24_1 : wc.cell? ⟨gb166, 1, none⟩ = some (.int .i64 a1_1) := vZ1 BK166; have hcz24_2 : wc.cell? ⟨gb166, 2, none⟩ = some (.int .i64 a1_2) := vZ2 BK166; have hcz24_3 : wc.cell? ⟨gb166, 3, none⟩ = some (.int .i64 a1_3) := vZ3 BK166; have hfz24_0 := kF BK166.out 0; have hfz24_1 := kF BK166.out 1; have hfz24_2 := kF BK166.out 2; have hfz24_3 := kF BK166.out 3; go_wp2
        go_ret
        exact ⟨wQ, bE⟩
      ·replace c21 := Bool.eq_false_iff.mpr c21; subst c21; replace H := iF H
       by_cases c25 : a1_0 = 3
       ·rw [if_pos c25] at H; have c25b0 : (a1_0 == 3) = true := beq_iff_eq.mpr c25; have c25b1 : (a1_0 != 3) = false := bne_eq_false_iff_eq.mpr c25; clear c25; replace H := bS H; obtain ⟨t170, A26, H⟩ := H; obtain rfl := Option.some.inj H; have hcz27_0 : wc.cell? ⟨gb166, 0, none⟩ = some (.int .i64 a1_0) := vZ0 BK166; have hcz27_1 : wc.cell? ⟨gb166, 1, none⟩ = some (.int .i64 a1_1) := vZ1 BK166; have hcz27_2 : wc.cell? ⟨gb166, 2, none⟩ = some (.int .i64 a1_2) := vZ2 BK166; have hcz27_3 : wc.cell? ⟨gb166, 3, none⟩ = some (.int .i64 a1_3) := vZ3 BK166; have hfz27_0 := kF BK166.out 0; have hfz27_1 := kF BK166.out 1; have hfz27_2 := kF BK166.out 2; have hfz27_3 := kF BK166.out 3
        go_wp2_with (first | ((with_reducible refine gC (f := 54) rfl ?_); refine goesL_ (some 55) rfl rfl Tryd.func54 kR rfl #[.int .i64 a1_3, .int .i64 0, .int .i64 (wrap64 (a0 * a0))] rfl sQ ?_; (with_reducible refine (impl_within.calls a1_3 0 (wrap64 (a0 * a0)) t170 _ A26.out).mono ?_); rintro e w' ⟨rfl, ⟨nd, rfl⟩⟩; refine ⟨_, rfl, ?_⟩))
        go_ret
        exact ⟨wQ, bE⟩
       ·rw [if_neg c25] at H; have c25b0 : (a1_0 == 3) = false := beq_eq_false_iff_ne.mpr c25; have c25b1 : (a1_0 != 3) = true := bne_iff_ne.mpr c25
        by_cases c28 : a1_0 = 4
        ·rw [if_pos c28] at H; have c28b0 : (a1_0 == 4) = true := beq_iff_eq.mpr c28; have c28b1 : (a1_0 != 4) = false := bne_eq_false_iff_eq.mpr c28; clear c28; replace H := bS H; obtain ⟨t171, A29, H⟩ := H; obtain rfl := Option.some.inj H; have hcz30_0 : wc.cell? ⟨gb166, 0, none⟩ = some (.int .i64 a1_0) := vZ0 BK166; have hcz30_1 : wc.cell? ⟨gb166, 1, none⟩ = some (.int .i64 a1_1) := vZ1 BK166; have hcz30_2 : wc.cell? ⟨gb166, 2, none⟩ = some (.int .i64 a1_2) := vZ2 BK166; have hcz30_3 : wc.cell? ⟨gb166, 3, none⟩ = some (.int .i64 a1_3) := vZ3 BK166; have hfz30_0 := kF BK166.out 0; have hfz30_1 := kF BK166.out 1; have hfz30_2 := kF BK166.out 2; have hfz30_3 := kF BK166.out 3
         go_wp2_with (first | ((with_reducible refine gC (f := 54) rfl ?_); refine goesL_ (some 64) rfl rfl Tryd.func54 kR rfl #[.int .i64 a1_3, .int .i64 0, .int .i64 (wrap64 ((wrap64 (2 * a0)) * a0))] rfl sQ ?_; (with_reducible refine (impl_within.calls a1_3 0 (wrap64 ((wrap64 (2 * a0)) * a0)) t171 _ A29.out).mono ?_); rintro e w' ⟨rfl, ⟨nd, rfl⟩⟩; refine ⟨_, rfl, ?_⟩))
         go_ret
         exact ⟨wQ, bE⟩
        ·rw [if_neg c28] at H; have c28b0 : (a1_0 == 4) = false := beq_eq_false_iff_ne.mpr c28; have c28b1 : (a1_0 != 4) = true := bne_iff_ne.mpr c28
         by_cases c31 : a1_0 = 5
         ·rw [if_pos c31] at H; have c31b0 : (a1_0 == 5) = true := beq_iff_eq.mpr c31; have c31b1 : (a1_0 != 5) = false := bne_eq_false_iff_eq.mpr c31; clear c31; replace H := bS H; obtain ⟨t172, A32, H⟩ := H; obtain rfl := Option.some.inj H; have hcz33_0 : wc.cell? ⟨gb166, 0, none⟩ = some (.int .i64 a1_0) := vZ0 BK166; have hcz33_1 : wc.cell? ⟨gb166, 1, none⟩ = some (.int .i64 a1_1) := vZ1 BK166; have hcz33_2 : wc.cell? ⟨gb166, 2, none⟩ = some (.int .i64 a1_2) := vZ2 BK166; have hcz33_3 : wc.cell? ⟨gb166, 3, none⟩ = some (.int .i64 a1_3) := vZ3 BK166; have hfz33_0 := kF BK166.out 0; have hfz33_1 := kF BK166.out 1; have hfz33_2 := kF BK166.out 2; have hfz33_3 := kF BK166.out 3
          go_wp2_with (first | ((with_reducible refine gC (f := 54) rfl ?_); refine goesL_ (some 69) rfl rfl Tryd.func54 kR rfl #[.int .i64 a1_3, .int .i64 0, .int .i64 1] rfl sQ ?_; (with_reducible refine (impl_within.calls a1_3 0 1 t172 _ A32.out).mono ?_); rintro e w' ⟨rfl, ⟨nd, rfl⟩⟩; refine ⟨_, rfl, ?_⟩))
          go_ret
          exact ⟨wQ, bE⟩
         ·rw [if_neg c31] at H; have c31b0 : (a1_0 == 5) = false := beq_eq_false_iff_ne.mpr c31; have c31b1 : (a1_0 != 5) = true := bne_iff_ne.mpr c31; obtain rfl := Option.some.inj H; go_wp2
          go_ret
          exact ⟨wQ, bE⟩

end Go.Proofs.YtoeclfihlhmnpaaDoor.X
