-- thin
-- short
-- compact
import Derived.Test.YtklhakfmegbobaaXA
import Derived.Test.YtklhakfmegbobaaX0
namespace Go.Proofs.Ytklhakfmegbobaa.X
open Go.RowKit Go.Proofs.Ytklhakfmegbobaa.XW Go.Proofs.YtklhakfmegbobaaW.PrintWords Go.Proofs.YtklhakfmegbobaaW.PrintLast Go.Proofs.YtklhakfmegbobaaW.PrintMore
attribute [local go_sem] max2_int min2_int max_two min_two max_three min_three max_four min_four   -- for this text's walks alone
set_option linter.unusedVariables false
set_option linter.unusedSimpArgs false

def laws_toPeg.f (a0_0 : Int) (a0_1 : Int) : Option (Int × Int) := some (a0_0, a0_1)
set_option maxHeartbeats 8000000 in
set_option maxRecDepth 100000 in
theorem laws_toPeg.calls (a0_0 : Int) (a0_1 : Int) (r1 : Int) (r2 : Int) (w : World) (h : laws_toPeg.f a0_0 a0_1 = some (r1, r2)) :
  Calls Try.prog 45 #[.agg #[.int .i64 a0_0, .int .i64 a0_1]] w fun e w' => e = .returned (.agg #[.int .i64 r1, .int .i64 r2]) ∧ Below w.heap.size w w' := by
 have hu57 := Try.underlying57; have hu26 := Try.underlying26; have HB := aM (Below.refl w.heap.size w)
 unfold laws_toPeg.f at h; have H := h; clear h
 simp only [Option.some.injEq, Prod.mk.injEq] at H
 obtain ⟨rfl, rfl⟩ := H
 go_enter Try.func45, Try.ntmps45
 go_wp2_with (first | ((with_reducible refine gate_dst (N := 1) rfl ?_); refine bV 1 (cs := #[.int .i64 a0_0, .int .i64 a0_1]) (t := 57) rfl rfl (by first | (go_simp; done) | (go_simp; rfl)) ?_; intro gb174 hg w2 hbox hb; have BK174 := hbox; have GW174 := gZ HB hg; have GE174 := gZ HB hg; replace HB := tB HB hb; clear hb hbox hg) | ((with_reducible refine gate_dst (N := 2) rfl ?_); refine bV 2 (cs := #[.int .i64 0, .int .i64 0]) (t := 26) rfl rfl (by first | (go_simp; done) | (go_simp; rfl)) ?_; intro gb175 hg w3 hbox hb; have BK175 := hbox; have GW175 := gZ HB hg; have GE175 := gZ HB hg; have NB174_175 := nG BK174 hg; have NB175_174 := nH BK174 hg; replace BK174 := bB BK174 hb; replace HB := tB HB hb; clear hb hbox hg) | ((with_reducible refine gate_dst (N := 3) rfl ?_); refine bV 3 (cs := #[.int .i64 0, .int .i64 0]) (t := 26) rfl rfl (by first | (go_simp; done) | (go_simp; rfl)) ?_; intro gb176 hg w4 hbox hb; have BK176 := hbox; have GW176 := gZ HB hg; have GE176 := gZ HB hg; have NB174_176 := nG BK174 hg; have NB176_174 := nH BK174 hg; have NB175_176 := nG BK175 hg; have NB176_175 := nH BK175 hg; replace BK174 := bB BK174 hb; replace BK175 := bB BK175 hb; replace HB := tB HB hb; clear hb hbox hg; have hnb5 := NB174_175.out; have hnc5 := NB175_174.out; have hnb6 := NB174_176.out; have hnc6 := NB176_174.out; have hcz7_0 := vZ0 BK174; have hcz7_1 := vZ1 BK174; have hfz7_0 := kF BK174.out 0; have hfz7_1 := kF BK174.out 1; have hnb8 := NB176_175.out; have hnc8 := NB175_176.out; have hcz9_0 := vZ0 BK176; have hcz9_1 := vZ1 BK176; have hfz9_0 := kF BK176.out 0; have hfz9_1 := kF BK176.out 1; have hcz10_0 := vZ0 BK175; have hcz10_1 := vZ1 BK175; have hfz10_0 := kF BK175.out 0; have hfz10_1 := kF BK175.out 1))
 refine bodyPost_ret (results_cell_row rfl _ _ gb175 26 #[.int .i64 a0_0, .int .i64 a0_1] (0, 0) _ rfl (fQ BK175) Try.underlying26 rfl kR) rfl ?_
 exact ⟨wQ, bE⟩

def laws_toPegS.l0 : Nat → List (S_laws_Peg) → List (S_impl_Peg) → Int → Option ((List (S_impl_Peg)))
 | 0, _, _, _ => none
 | k + 1, x0, x3, x4 => if x4 < (x0.length : Int) then (if 0 ≤ x4 then ((laws_toPeg.f ((rd_laws_Peg x0 x4).f0) ((rd_laws_Peg x0 x4).f1)).bind fun bt181 => (if x4 < (x3.length : Int) then (laws_toPegS.l0 k x0 (x3.set (x4 : Int).toNat (⟨bt181.1, bt181.2⟩ : S_impl_Peg)) (wrap64 (x4 + 1))) else (none))) else (none)) else (some x3)
def laws_toPegS.f (k : Nat) (l0 : List (S_laws_Peg)) : Option ((List (S_impl_Peg))) := if 0 ≤ (l0.length : Int) then (if ((l0.length : Int) : Int).toNat ≤ 17592186044416 then (laws_toPegS.l0 k l0 (List.replicate ((l0.length : Int) : Int).toNat z_impl_Peg) 0) else (none)) else (none)
theorem laws_toPegS.mono_l : ∀ k, (∀ y0 y1 y2, LeO (laws_toPegS.l0 k y0 y1 y2) (laws_toPegS.l0 (k + 1) y0 y1 y2))
 | 0 => fun _ _ _ r h => by simp [laws_toPegS.l0] at h
 | k + 1 => by
  have ih0 := laws_toPegS.mono_l k
  ·intro y0 y1 y2
   unfold laws_toPegS.l0
   repeat' first
   | (with_reducible exact ih0 _ _ _)
   | (with_reducible exact LeO.refl _)
   | (with_reducible exact LeO.none _)
   | (with_reducible refine LeO.ite ?_ ?_)
   | (with_reducible refine LeO.bind ?_ (fun _ => ?_))
   | exact ih0 _ _ _
   | exact LeO.none _
   | refine LeO.ite ?_ ?_
   | refine LeO.bind ?_ (fun _ => ?_)
theorem laws_toPegS.mono : ∀ a0 k, LeO (laws_toPegS.f k a0) (laws_toPegS.f (k + 1) a0) := by
 intro a0 k
 have ih0 := laws_toPegS.mono_l k
 unfold laws_toPegS.f
 repeat' first | (with_reducible exact ih0 _ _ _) | (with_reducible exact LeO.refl _) | (with_reducible exact LeO.none _) | (with_reducible refine LeO.ite ?_ ?_) | (with_reducible refine LeO.bind ?_ (fun _ => ?_)) | exact ih0 _ _ _ | exact LeO.none _ | refine LeO.ite ?_ ?_ | refine LeO.bind ?_ (fun _ => ?_)
set_option maxHeartbeats 8000000 in
set_option maxRecDepth 100000 in
theorem laws_toPegS.calls (k : Nat) (A0 : Option Addr) (c0 : Nat) (l0 : List (S_laws_Peg)) (r : List (S_impl_Peg)) (w : World) (hr0 : Kd.C kd_laws_Peg w A0 l0.length l0) (hc0 : l0.length ≤ c0) (h : laws_toPegS.f k l0 = some r) :
  Calls Try.prog 17 #[.slice A0 l0.length c0] w fun e w' => ∃ v0_ : Value, e = .returned (v0_) ∧ Kd.R kd_impl_Peg 26 w' w.heap.size (fun _ => True) v0_ r ∧ Below w.heap.size w w' := by
 have hu57 := Try.underlying57; have hu26 := Try.underlying26; have HR0 := aM hr0; have HC0 := aM hc0; clear hr0 hc0; have HB := aM (Below.refl w.heap.size w)
 unfold laws_toPegS.f at h; have H := h; clear h
 replace H := iN H; obtain ⟨c2, H⟩ := H; have c2b0 := eq_true c2; have c2b1 := dE c2; clear c2; replace H := iN H; obtain ⟨c3, H⟩ := H; have c3b0 := eq_true c3; have c3b1 := dE c3; clear c3; obtain ⟨y177, hy177⟩ : ∃ y_ : List (S_impl_Peg), y_ = (List.replicate ((l0.length : Int) : Int).toNat z_impl_Peg) := ⟨_, rfl⟩; rw [← hy177] at H; have Ny177 := aM hy177; clear hy177; have H' := aM H; clear H
 go_enter Try.func17, Try.ntmps17
 go_wp2_with (first | ((with_reducible refine gate_dst (N := 7) rfl ?_); refine Kd.R_make kd_impl_Peg _ 26 rfl (N := 7) rfl 29 _ _ rfl (l0.length : Int) rfl rfl Try.underlying29 (.agg #[(.int .i64 0), (.int .i64 0)]) 16 info26 rfl (by decide) (by omega) z_impl_Peg (ok := fun _ => True) (okp := fun _ => True) (kd_impl_Peg_mkM _ _ _ z_impl_Peg ) (fun _ hk => hk) trivial (dT aQ) (Nat.le_trans (Nat.mul_le_mul_right _ (dT aQ : (l0.length : Int).toNat ≤ 17592186044416)) (by omega)) (Below.refl _ _) (Nat.le_refl _) ?_; intro v178 w4 ho5 hb hg_ hnew_; clear hg_ hnew_; (first | rw [← Ny177.out] at ho5 | (simp only [Int.reduceToNat] at ho5; rw [← Ny177.out] at ho5)); have HO179 := aM (Kd.R_lower ho5 (pZ bQ)); replace HB := tB HB hb; clear hb ho5))
 go_loopg [4] k (fun kq v4 w' => ∃ (x3_1 : List (S_impl_Peg)) (x4_1 : Int), v4 = .int .i64 x4_1 ∧ Aside0 (laws_toPegS.l0 kq l0 x3_1 x4_1 = some r) ∧ Aside0 (kq ≤ k) ∧ Aside0 (Kd.R kd_impl_Peg 26 w' w.heap.size (fun _ => True) v178 x3_1) ∧ Aside0 (Below w.heap.size w w'))
 case atStart => exact ⟨(y177), (0), eQ, H', ⟨Nat.le_refl _⟩, ⟨by (with_reducible repeat (first | apply rA | apply rN | apply rD)); exact HO179.out⟩, ⟨bQ⟩⟩
 case round =>
  clear H'; (try clear c2); (try clear c2b0); (try clear c2b1); (try clear c3); (try clear c3b0); (try clear c3b1); obtain ⟨x3_1, x4_1, rfl, HA, HK1, HO_3, HB⟩ := hrel
  cases gk with
  | zero => exact absurd HA.out (by simp [laws_toPegS.l0])
  | succ k1 =>
   have H := HA.out; clear HA
   simp only [laws_toPegS.l0] at H
   by_cases c6 : x4_1 < (l0.length : Int)
   ·rw [if_pos c6] at H; have c6b0 := dE c6; clear c6; replace H := iD H; obtain ⟨c7b0, H⟩ := H; replace H := bS H; obtain ⟨⟨t181, t182⟩, A8, H⟩ := H; replace H := iD H; obtain ⟨c9b0, H⟩ := H; obtain ⟨y183, hy183⟩ : ∃ y_ : List (S_impl_Peg), y_ = (x3_1.set (x4_1 : Int).toNat (⟨t181, t182⟩ : S_impl_Peg)) := ⟨_, rfl⟩; rw [← hy183] at H; have Ny183 := aM hy183; clear hy183; have H' := aM H; clear H; have p180 : 0 ≤ (x4_1 : Int) := dT aQ; have q180 : x4_1 < (l0.length : Int) := dT aQ; obtain ⟨ad180, e180, hx180_0, hx180_1⟩ := at_laws_Peg HR0.out x4_1 p180 q180
    cases e180
    replace hx180_0 := hC HB hx180_0; replace hx180_1 := hC HB hx180_1; replace p180 := eq_true p180; replace q180 := eq_true q180
    go_wp2_with (first | ((with_reducible refine gC (f := 45) rfl ?_); refine goesL_ (some 20) rfl rfl Try.func45 kR rfl #[.agg #[.int .i64 ((rd_laws_Peg l0 x4_1).f0), .int .i64 ((rd_laws_Peg l0 x4_1).f1)]] rfl sQ ?_; (with_reducible refine (laws_toPeg.calls ((rd_laws_Peg l0 x4_1).f0) ((rd_laws_Peg l0 x4_1).f1) t181 t182 _ A8.out).mono ?_); rintro e w11 ⟨rfl, hb⟩; refine ⟨_, rfl, ?_⟩; replace HO_3 := aM (Kd.R_below (by (with_reducible repeat (first | apply rA | apply rN | apply rD)); exact HO_3.out) hb); replace HB := tB HB hb; (try clear hb); (try clear hb2); (try clear hk); (try clear hi); have p10 : 0 ≤ (x4_1 : Int) := dT aQ; have q10 : (x4_1 : Int) < ((x3_1.length : Int) : Int) := dT aQ; obtain ⟨go10, co10, eo10, gb10, gl10, cl10, HG10⟩ := Kd.R_form HO_3.out (by omega); (first | cases eo10 | (injection eo10 with ea_ en_ ec_; (first | subst ea_ | (injection ea_ with ea_; subst ea_)); subst ec_; clear en_)); have GB10 := aM gb10; have GG10 := aM HG10; clear gb10 gl10 HG10; obtain ⟨ce10, hcl10, hM10, hcc10, hfr10⟩ := Kd.R_elem HO_3.out z_impl_Peg (x4_1 : Int) p10 q10; obtain rfl := kd_impl_Peg_openM hM10; have hx10_0 : w11.cell? ⟨go10, (x4_1 : Int).toNat * 2, none⟩ = some (.int .i64 ((rd_impl_Peg x3_1 x4_1).f0)) := hcc10 0 _ rfl; have hx10_1 : w11.cell? ⟨go10, (x4_1 : Int).toNat * 2 + 1, none⟩ = some (.int .i64 ((rd_impl_Peg x3_1 x4_1).f1)) := hcc10 1 _ rfl; have hf10_0 : w11.frozen? ⟨go10, (x4_1 : Int).toNat * 2, none⟩ = false := hfr10 0; have hf10_1 : w11.frozen? ⟨go10, (x4_1 : Int).toNat * 2 + 1, none⟩ = false := hfr10 1; clear hcl10 hcc10 hfr10 hM10; replace p10 := eq_true p10; replace q10 := eq_true q10; have HX12 := aM (show Kd.R kd_impl_Peg 26 w11 w.heap.size (fun _ => True) (.slice (some ⟨go10, 0, none⟩) x3_1.length co10) x3_1 from (by (with_reducible repeat (first | apply rA | apply rN | apply rD)); exact HO_3.out)); obtain ⟨ce12, hcl12, hM12, hcc12, hfr12⟩ := Kd.R_elem HX12.out z_impl_Peg (x4_1 : Int) (dT aQ) (by have h_ : (x4_1 : Int) < ((x3_1.length : Int) : Int) := dT aQ; first | exact h_ | (have e_ := (rR HO_3.out).1; omega) | simpa using h_); obtain rfl := kd_impl_Peg_openM hM12; have HP12 := Kd.R_seg HX12.out (x4_1 : Int) (dT aQ) (by have h_ : (x4_1 : Int) < ((x3_1.length : Int) : Int) := dT aQ; first | exact h_ | (have e_ := (rR HO_3.out).1; omega) | simpa using h_) (seg := [.int .i64 t181, .int .i64 t182]) (j := 0) hcl12 hcc12 (show 2 ≤ 2 from by decide) (x' := (⟨t181, t182⟩ : S_impl_Peg)) (kd_impl_Peg_mkM _ _ _ (⟨t181, t182⟩ : S_impl_Peg) ) (fun _ hk => hk); have hx12_0 := hcc12 0 _ rfl; (try simp only [show (kd_impl_Peg).sz = 2 from rfl, Nat.mul_one, Nat.add_zero] at hx12_0); have hf12_0 := hfr12 0; (try simp only [show (kd_impl_Peg).sz = 2 from rfl, Nat.mul_one, Nat.add_zero] at hf12_0); have hx12_1 := hcc12 1 _ rfl; (try simp only [show (kd_impl_Peg).sz = 2 from rfl, Nat.mul_one, Nat.add_zero] at hx12_1); have hf12_1 := hfr12 1; (try simp only [show (kd_impl_Peg).sz = 2 from rfl, Nat.mul_one, Nat.add_zero] at hf12_1); clear hcl12 hcc12 hfr12 hM12) | ((with_reducible refine gate_store (t := 26) (p := 21) rfl ?_); refine store_event (t := 26) (p := 21) (v := ?vo_w13) (w1 := ((w11.setCell ⟨go10, (x4_1 : Int).toNat * 2, none⟩ (.int .i64 t181)).setCell ⟨go10, (x4_1 : Int).toNat * 2 + 1, none⟩ (.int .i64 t182))) ?hg ?ho ?hn ?hr ?_; (case ho => rfl); (case hg => rfl); (case hn => rfl); (case hr => first | (go_simp; done) | (go_simp; rfl)); intro w13 hw; have hg : w11.grownBy w13 (some go10) := (by rw [hw]; exact HP12.2); have hp_ : Kd.R kd_impl_Peg 26 w13 w.heap.size (fun _ => True) (.slice (some ⟨go10, 0, none⟩) x3_1.length co10) y183 := (by rw [hw, Ny183.out]; exact HP12.1); clear HP12; replace HO_3 := aM (hp_); replace HB := aM ((by rw [hw]; exact pS (pS (HB.out) GB10.out) GB10.out : Below w.heap.size w w13)); clear hg hw hp_))
    go_roundg k1
    case measure => have := HK1.out; omega
    case rel => exact ⟨(y183), (wrap64 (x4_1 + 1)), eQ, H', ⟨by have := HK1.out; omega⟩, ⟨by (with_reducible repeat (first | apply rA | apply rN | apply rD)); exact HO_3.out⟩, ⟨bQ⟩⟩
   ·rw [if_neg c6] at H; have c6b0 := decide_eq_false c6; clear c6; obtain rfl := Option.some.inj H; go_wp2
    go_ret
    exact ⟨_, by first | rfl | (simp [errW_none, errW_some] <;> rfl) | (simp [*, errW_none, errW_some] <;> rfl), by (with_reducible repeat (first | apply rA | apply rN | apply rD)); exact HO_3.out, bQ⟩
def laws_toIntS.l0 : Nat → List Int → List Int → Int → Option (List Int)
 | 0, _, _, _ => none
 | k + 1, x0, x3, x4 => if x4 < (x0.length : Int) then (if 0 ≤ x4 then (if x4 < (x3.length : Int) then (laws_toIntS.l0 k x0 (x3.set (x4 : Int).toNat (rd x0 x4)) (wrap64 (x4 + 1))) else (none)) else (none)) else (some x3)
def laws_toIntS.f (k : Nat) (l0 : List Int) : Option (List Int) := if 0 ≤ (l0.length : Int) then (if ((l0.length : Int) : Int).toNat ≤ 35184372088832 then (laws_toIntS.l0 k l0 (List.replicate ((l0.length : Int) : Int).toNat 0) 0) else (none)) else (none)
theorem laws_toIntS.mono_l : ∀ k, (∀ y0 y1 y2, LeO (laws_toIntS.l0 k y0 y1 y2) (laws_toIntS.l0 (k + 1) y0 y1 y2))
 | 0 => fun _ _ _ r h => by simp [laws_toIntS.l0] at h
 | k + 1 => by
  have ih0 := laws_toIntS.mono_l k
  ·intro y0 y1 y2
   unfold laws_toIntS.l0
   repeat' first
   | (with_reducible exact ih0 _ _ _)
   | (with_reducible exact LeO.refl _)
   | (with_reducible exact LeO.none _)
   | (with_reducible refine LeO.ite ?_ ?_)
   | (with_reducible refine LeO.bind ?_ (fun _ => ?_))
   | exact ih0 _ _ _
   | exact LeO.none _
   | refine LeO.ite ?_ ?_
   | refine LeO.bind ?_ (fun _ => ?_)
theorem laws_toIntS.mono : ∀ a0 k, LeO (laws_toIntS.f k a0) (laws_toIntS.f (k + 1) a0) := by
 intro a0 k
 have ih0 := laws_toIntS.mono_l k
 unfold laws_toIntS.f
 repeat' first | (with_reducible exact ih0 _ _ _) | (with_reducible exact LeO.refl _) | (with_reducible exact LeO.none _) | (with_reducible refine LeO.ite ?_ ?_) | (with_reducible refine LeO.bind ?_ (fun _ => ?_)) | exact ih0 _ _ _ | exact LeO.none _ | refine LeO.ite ?_ ?_ | refine LeO.bind ?_ (fun _ => ?_)
set_option maxHeartbeats 8000000 in
set_option maxRecDepth 100000 in
theorem laws_toIntS.calls (k : Nat) (A0 : Option Addr) (c0 : Nat) (l0 : List Int) (r : List Int) (w : World) (hr0 : Kd.C (Kd.int .i64) w A0 l0.length l0) (hc0 : l0.length ≤ c0) (h : laws_toIntS.f k l0 = some r) :
  Calls Try.prog 18 #[.slice A0 l0.length c0] w fun e w' => ∃ v0_ : Value, e = .returned (v0_) ∧ Kd.R (Kd.int .i64) 3 w' w.heap.size (fun _ => True) v0_ r ∧ Below w.heap.size w w' := by
 have HR0 := aM hr0; have HC0 := aM hc0; clear hr0 hc0; have HB := aM (Below.refl w.heap.size w)
 unfold laws_toIntS.f at h; have H := h; clear h
 replace H := iN H; obtain ⟨c2, H⟩ := H; have c2b0 := eq_true c2; have c2b1 := dE c2; clear c2; replace H := iN H; obtain ⟨c3, H⟩ := H; have c3b0 := eq_true c3; have c3b1 := dE c3; clear c3; obtain ⟨y184, hy184⟩ : ∃ y_ : List Int, y_ = (List.replicate ((l0.length : Int) : Int).toNat 0) := ⟨_, rfl⟩; rw [← hy184] at H; have Ny184 := aM hy184; clear hy184; have H' := aM H; clear H
 go_enter Try.func18, Try.ntmps18
 go_wp2_with (first | ((with_reducible refine gate_dst (N := 7) rfl ?_); refine Kd.R_make (Kd.int .i64) _ 3 rfl (N := 7) rfl 23 _ _ rfl (l0.length : Int) rfl rfl Try.underlying23 (.int .i64 0) 8 info3 rfl (by decide) (by omega) 0 (ok := fun _ => True) (okp := fun _ => True) rfl (fun _ hk => hk) trivial (dT aQ) (Nat.le_trans (Nat.mul_le_mul_right _ (dT aQ : (l0.length : Int).toNat ≤ 35184372088832)) (by omega)) (Below.refl _ _) (Nat.le_refl _) ?_; intro v185 w4 ho5 hb hg_ hnew_; clear hg_ hnew_; (first | rw [← Ny184.out] at ho5 | (simp only [Int.reduceToNat] at ho5; rw [← Ny184.out] at ho5)); have HO186 := aM (Kd.R_lower ho5 (pZ bQ)); replace HB := tB HB hb; clear hb ho5))
 go_loopg [4] k (fun kq v4 w' => ∃ (x3_1 : List Int) (x4_1 : Int), v4 = .int .i64 x4_1 ∧ Aside0 (laws_toIntS.l0 kq l0 x3_1 x4_1 = some r) ∧ Aside0 (kq ≤ k) ∧ Aside0 (Kd.R (Kd.int .i64) 3 w' w.heap.size (fun _ => True) v185 x3_1) ∧ Aside0 (Below w.heap.size w w'))
 case atStart => exact ⟨(y184), (0), eQ, H', ⟨Nat.le_refl _⟩, ⟨by (with_reducible repeat (first | apply rA | apply rN | apply rD)); exact HO186.out⟩, ⟨bQ⟩⟩
 case round =>
  clear H'; (try clear c2); (try clear c2b0); (try clear c2b1); (try clear c3); (try clear c3b0); (try clear c3b1); obtain ⟨x3_1, x4_1, rfl, HA, HK1, HO_3, HB⟩ := hrel
  cases gk with
  | zero => exact absurd HA.out (by simp [laws_toIntS.l0])
  | succ k1 =>
   have H := HA.out; clear HA
   simp only [laws_toIntS.l0] at H
   by_cases c6 : x4_1 < (l0.length : Int)
   ·rw [if_pos c6] at H; have c6b0 := dE c6; clear c6; replace H := iD H; obtain ⟨c7b0, H⟩ := H; replace H := iD H; obtain ⟨c8b0, H⟩ := H; obtain ⟨y188, hy188⟩ : ∃ y_ : List Int, y_ = (x3_1.set (x4_1 : Int).toNat (rd l0 x4_1)) := ⟨_, rfl⟩; rw [← hy188] at H; have Ny188 := aM hy188; clear hy188; have H' := aM H; clear H; have p187 : 0 ≤ (x4_1 : Int) := dT aQ; have q187 : x4_1 < (l0.length : Int) := dT aQ; obtain ⟨ad187, e187, hx187_0⟩ := Kd.at_int HR0.out x4_1 p187 q187
    cases e187
    replace hx187_0 := hC HB hx187_0; replace p187 := eq_true p187; replace q187 := eq_true q187; have p9 : 0 ≤ (x4_1 : Int) := dT aQ; have q9 : (x4_1 : Int) < ((x3_1.length : Int) : Int) := dT aQ; obtain ⟨go9, co9, eo9, gb9, gl9, cl9, HG9⟩ := Kd.R_form HO_3.out (by omega)
    (first | cases eo9 | (injection eo9 with ea_ en_ ec_; (first | subst ea_ | (injection ea_ with ea_; subst ea_)); subst ec_; clear en_))
    have GB9 := aM gb9; have GG9 := aM HG9; clear gb9 gl9 HG9; obtain ⟨hx9_0, hf9_0⟩ := Kd.R_celln 0 HO_3.out (x4_1 : Int) p9 q9; replace p9 := eq_true p9; replace q9 := eq_true q9; have HP10 := Kd.R_putg HO_3.out (x4_1 : Int) (rd l0 x4_1)
    go_wp2_with (first | ((with_reducible refine gate_store (t := 3) (p := 20) rfl ?_); refine store_event (t := 3) (p := 20) (v := ?vo_w11) (w1 := (wr.setCell ⟨go9, (x4_1 : Int).toNat, none⟩ (.int .i64 (rd l0 x4_1)))) ?hg ?ho ?hn ?hr ?_; (case ho => rfl); (case hg => rfl); (case hn => rfl); (case hr => first | (go_simp; done) | (go_simp; rfl)); intro w11 hw; have hg : wr.grownBy w11 (some go9) := (by rw [hw]; exact HP10.2); have hp_ : Kd.R (Kd.int .i64) 3 w11 w.heap.size (fun _ => True) (.slice (some ⟨go9, 0, none⟩) x3_1.length co9) y188 := (by rw [hw, Ny188.out]; exact HP10.1); clear HP10; replace HO_3 := aM (hp_); replace HB := aM ((by rw [hw]; exact pS (HB.out) GB9.out : Below w.heap.size w w11)); clear hg hw hp_))
    go_roundg k1
    case measure => have := HK1.out; omega
    case rel => exact ⟨(y188), (wrap64 (x4_1 + 1)), eQ, H', ⟨by have := HK1.out; omega⟩, ⟨by (with_reducible repeat (first | apply rA | apply rN | apply rD)); exact HO_3.out⟩, ⟨bQ⟩⟩
   ·rw [if_neg c6] at H; have c6b0 := decide_eq_false c6; clear c6; obtain rfl := Option.some.inj H; go_wp2
    go_ret
    exact ⟨_, by first | rfl | (simp [errW_none, errW_some] <;> rfl) | (simp [*, errW_none, errW_some] <;> rfl), by (with_reducible repeat (first | apply rA | apply rN | apply rD)); exact HO_3.out, bQ⟩
def impl_within.f (a0 : Int) (a1 : Int) (a2 : Int) : Option (Bool) := if a0 ≥ a1 then (some (decide (a0 ≤ a2))) else (some false)
set_option maxHeartbeats 8000000 in
set_option maxRecDepth 100000 in
theorem impl_within.calls (a0 : Int) (a1 : Int) (a2 : Int) (r : Bool) (w : World) (h : impl_within.f a0 a1 a2 = some r) :
  Calls Try.prog 59 #[.int .i64 a0, .int .i64 a1, .int .i64 a2] w fun e w' => e = .returned (.bool r) ∧ Drawn0 w w' := by
 unfold impl_within.f at h; have H := h; clear h
 by_cases c4 : a0 ≥ a1
 ·rw [if_pos c4] at H; have c4b0 := dE c4; clear c4; obtain rfl := Option.some.inj H
  go_enter Try.func59, Try.ntmps59
  go_wp2
  go_ret
  exact ⟨eQ, dQ⟩
 ·rw [if_neg c4] at H; have c4b0 := decide_eq_false c4; clear c4; obtain rfl := Option.some.inj H
  go_enter Try.func59, Try.ntmps59
  go_wp2
  go_ret
  exact ⟨eQ, dQ⟩

-- NOT PRINTED: function 139 (slices_IndexFunc_impl_Peg)

-- NOT PRINTED: function 121 (slices_ContainsFunc_impl_Peg)

def impl_IsPeg.f (a0_0 : Int) (a0_1 : Int) : Option (Bool) := (impl_within.f a0_0 (-40) 40).bind fun t190 => (if t190 = true then ((impl_within.f a0_1 (-40) 40).bind fun t191 => (some t191)) else (some false))
set_option maxHeartbeats 8000000 in
set_option maxRecDepth 100000 in
theorem impl_IsPeg.calls (a0_0 : Int) (a0_1 : Int) (r : Bool) (w : World) (h : impl_IsPeg.f a0_0 a0_1 = some r) :
  Calls Try.prog 62 #[.agg #[.int .i64 a0_0, .int .i64 a0_1]] w fun e w' => e = .returned (.bool r) ∧ Below w.heap.size w w' := by
 have hu26 := Try.underlying26; have HB := aM (Below.refl w.heap.size w)
 unfold impl_IsPeg.f at h; have H := h; clear h
 replace H := bS H; obtain ⟨t190, A2, H⟩ := H
 by_cases c3 : t190 = true
 ·subst c3; replace H := iT H; replace H := bS H; obtain ⟨t191, A4, H⟩ := H; obtain rfl := Option.some.inj H
  go_enter Try.func62, Try.ntmps62
  go_wp2_with (first | ((with_reducible refine gate_dst (N := 1) rfl ?_); refine bV 1 (cs := #[.int .i64 a0_0, .int .i64 a0_1]) (t := 26) rfl rfl (by first | (go_simp; done) | (go_simp; rfl)) ?_; intro gb189 hg w5 hbox hb; have BK189 := hbox; have GW189 := gZ HB hg; have GE189 := gZ HB hg; replace HB := tB HB hb; clear hb hbox hg; have hcz6_0 := vZ0 BK189; have hcz6_1 := vZ1 BK189; have hfz6_0 := kF BK189.out 0; have hfz6_1 := kF BK189.out 1) | ((with_reducible refine gC (f := 59) rfl ?_); refine goesL_ (some 5) rfl rfl Try.func59 kR rfl #[.int .i64 a0_0, .int .i64 (-40), .int .i64 40] rfl sQ ?_; (with_reducible refine (impl_within.calls a0_0 (-40) 40 true _ A2.out).mono ?_); rintro e w' ⟨rfl, ⟨nd, rfl⟩⟩; refine ⟨_, rfl, ?_⟩) | (go_at_call 59; (with_reducible refine (impl_within.calls a0_1 (-40) 40 t191 _ A4.out).mono ?_); rintro e w' ⟨rfl, ⟨nd, rfl⟩⟩))
  go_ret
  exact ⟨wQ, bE⟩
 ·replace c3 := Bool.eq_false_iff.mpr c3; subst c3; replace H := iF H; obtain rfl := Option.some.inj H
  go_enter Try.func62, Try.ntmps62
  go_wp2_with (first | ((with_reducible refine gate_dst (N := 1) rfl ?_); refine bV 1 (cs := #[.int .i64 a0_0, .int .i64 a0_1]) (t := 26) rfl rfl (by first | (go_simp; done) | (go_simp; rfl)) ?_; intro gb189 hg w7 hbox hb; have BK189 := hbox; have GW189 := gZ HB hg; have GE189 := gZ HB hg; replace HB := tB HB hb; clear hb hbox hg; have hcz8_0 := vZ0 BK189; have hcz8_1 := vZ1 BK189; have hfz8_0 := kF BK189.out 0; have hfz8_1 := kF BK189.out 1) | ((with_reducible refine gC (f := 59) rfl ?_); refine goesL_ (some 5) rfl rfl Try.func59 kR rfl #[.int .i64 a0_0, .int .i64 (-40), .int .i64 40] rfl sQ ?_; (with_reducible refine (impl_within.calls a0_0 (-40) 40 false _ A2.out).mono ?_); rintro e w' ⟨rfl, ⟨nd, rfl⟩⟩; refine ⟨_, rfl, ?_⟩))
  go_ret
  exact ⟨wQ, bE⟩

def impl_arePegs_1.f (a0_0 : Int) (a0_1 : Int) : Option (Bool) := (impl_IsPeg.f a0_0 a0_1).bind fun t193 => (some (!t193))
set_option maxHeartbeats 8000000 in
set_option maxRecDepth 100000 in
theorem impl_arePegs_1.calls (a0_0 : Int) (a0_1 : Int) (r : Bool) (w : World) (h : impl_arePegs_1.f a0_0 a0_1 = some r) :
  Calls Try.prog 122 #[.agg #[.int .i64 a0_0, .int .i64 a0_1]] w fun e w' => e = .returned (.bool r) ∧ Below w.heap.size w w' := by
 have hu26 := Try.underlying26; have HB := aM (Below.refl w.heap.size w)
 unfold impl_arePegs_1.f at h; have H := h; clear h
 replace H := bS H; obtain ⟨t193, A2, H⟩ := H; obtain rfl := Option.some.inj H
 go_enter Try.func122, Try.ntmps122
 go_wp2_with (first | ((with_reducible refine gate_dst (N := 1) rfl ?_); refine bV 1 (cs := #[.int .i64 a0_0, .int .i64 a0_1]) (t := 26) rfl rfl (by first | (go_simp; done) | (go_simp; rfl)) ?_; intro gb192 hg w3 hbox hb; have BK192 := hbox; have GW192 := gZ HB hg; have GE192 := gZ HB hg; replace HB := tB HB hb; clear hb hbox hg; have hcz4_0 := vZ0 BK192; have hcz4_1 := vZ1 BK192; have hfz4_0 := kF BK192.out 0; have hfz4_1 := kF BK192.out 1) | ((with_reducible refine gC (f := 62) rfl ?_); refine goesL_ (some 4) rfl rfl Try.func62 kR rfl #[.agg #[.int .i64 a0_0, .int .i64 a0_1]] rfl sQ ?_; (with_reducible refine (impl_IsPeg.calls a0_0 a0_1 t193 _ A2.out).mono ?_); rintro e w5 ⟨rfl, hb⟩; refine ⟨_, rfl, ?_⟩; replace BK192 := bB BK192 hb; replace HB := tB HB hb; (try clear hb); (try clear hb2); (try clear hk); (try clear hi)))
 go_ret
 exact ⟨wQ, bE⟩

def slices_IndexFunc_impl_Peg_at_impl_arePegs_1.l0 : Nat → List (S_impl_Peg) → Int → Int → Option (Int)
 | 0, _, _, _ => none
 | k + 1, x0, x7, x8 => if x8 < x7 then (if 0 ≤ x8 then (if x8 < (x0.length : Int) then ((impl_arePegs_1.f ((rd_impl_Peg x0 x8).f0) ((rd_impl_Peg x0 x8).f1)).bind fun t195 => (if t195 = true then (some x8) else (slices_IndexFunc_impl_Peg_at_impl_arePegs_1.l0 k x0 x7 (wrap64 (x8 + 1))))) else (none)) else (none)) else (some (-1))
def slices_IndexFunc_impl_Peg_at_impl_arePegs_1.f (k : Nat) (l0 : List (S_impl_Peg)) : Option (Int) := slices_IndexFunc_impl_Peg_at_impl_arePegs_1.l0 k l0 (l0.length : Int) 0
theorem slices_IndexFunc_impl_Peg_at_impl_arePegs_1.mono_l : ∀ k, (∀ y0 y1 y2, LeO (slices_IndexFunc_impl_Peg_at_impl_arePegs_1.l0 k y0 y1 y2) (slices_IndexFunc_impl_Peg_at_impl_arePegs_1.l0 (k + 1) y0 y1 y2))
 | 0 => fun _ _ _ r h => by simp [slices_IndexFunc_impl_Peg_at_impl_arePegs_1.l0] at h
 | k + 1 => by
  have ih0 := slices_IndexFunc_impl_Peg_at_impl_arePegs_1.mono_l k
  ·intro y0 y1 y2
   unfold slices_IndexFunc_impl_Peg_at_impl_arePegs_1.l0
   repeat' first
   | (with_reducible exact ih0 _ _ _)
   | (with_reducible exact LeO.refl _)
   | (with_reducible exact LeO.none _)
   | (with_reducible refine LeO.ite ?_ ?_)
   | (with_reducible refine LeO.bind ?_ (fun _ => ?_))
   | exact ih0 _ _ _
   | exact LeO.none _
   | refine LeO.ite ?_ ?_
   | refine LeO.bind ?_ (fun _ => ?_)
theorem slices_IndexFunc_impl_Peg_at_impl_arePegs_1.mono : ∀ a0 k, LeO (slices_IndexFunc_impl_Peg_at_impl_arePegs_1.f k a0) (slices_IndexFunc_impl_Peg_at_impl_arePegs_1.f (k + 1) a0) := by
 intro a0 k
 have ih0 := slices_IndexFunc_impl_Peg_at_impl_arePegs_1.mono_l k
 unfold slices_IndexFunc_impl_Peg_at_impl_arePegs_1.f
 repeat' first | (with_reducible exact ih0 _ _ _) | (with_reducible exact LeO.refl _) | (with_reducible exact LeO.none _) | (with_reducible refine LeO.ite ?_ ?_) | (with_reducible refine LeO.bind ?_ (fun _ => ?_)) | exact ih0 _ _ _ | exact LeO.none _ | refine LeO.ite ?_ ?_ | refine LeO.bind ?_ (fun _ => ?_)
set_option maxHeartbeats 8000000 in
set_option maxRecDepth 100000 in
theorem slices_IndexFunc_impl_Peg_at_impl_arePegs_1.calls (k : Nat) (A0 : Option Addr) (c0 : Nat) (l0 : List (S_impl_Peg)) (r : Int) (w : World) (hr0 : Kd.C kd_impl_Peg w A0 l0.length l0) (hc0 : l0.length ≤ c0) (h : slices_IndexFunc_impl_Peg_at_impl_arePegs_1.f k l0 = some r) :
  Calls Try.prog 139 #[.slice A0 l0.length c0, .func (.func 122) #[] #[]] w fun e w' => e = .returned (.int .i64 r) ∧ Below w.heap.size w w' := by
 have hu26 := Try.underlying26; have HR0 := aM hr0; have HC0 := aM hc0; clear hr0 hc0; have HB := aM (Below.refl w.heap.size w)
 unfold slices_IndexFunc_impl_Peg_at_impl_arePegs_1.f at h; have H := h; clear h
 have H' := aM H; clear H
 go_enter Try.func139, Try.ntmps139
 go_wp2
 go_loopg [8] k (fun kq v8 w' => ∃ (x8_1 : Int), v8 = .int .i64 x8_1 ∧ Aside0 (slices_IndexFunc_impl_Peg_at_impl_arePegs_1.l0 kq l0 (l0.length : Int) x8_1 = some r) ∧ Aside0 (kq ≤ k) ∧ Aside0 (Below w.heap.size w w'))
 case atStart => exact ⟨(0), eQ, H', ⟨Nat.le_refl _⟩, ⟨bQ⟩⟩
 case round =>
  clear H'; obtain ⟨x8_1, rfl, HA, HK1, HB⟩ := hrel
  cases gk with
  | zero => exact absurd HA.out (by simp [slices_IndexFunc_impl_Peg_at_impl_arePegs_1.l0])
  | succ k1 =>
   have H := HA.out; clear HA
   simp only [slices_IndexFunc_impl_Peg_at_impl_arePegs_1.l0] at H
   by_cases c2 : x8_1 < (l0.length : Int)
   ·rw [if_pos c2] at H; have c2b0 := dE c2; clear c2; replace H := iD H; obtain ⟨c3b0, H⟩ := H; replace H := iD H; obtain ⟨c4b0, H⟩ := H; replace H := bS H; obtain ⟨t195, A5, H⟩ := H
    by_cases c6 : t195 = true
    ·subst c6; replace H := iT H; obtain rfl := Option.some.inj H; have p194 : 0 ≤ (x8_1 : Int) := dT aQ; have q194 : x8_1 < (l0.length : Int) := dT aQ; obtain ⟨ad194, e194, hx194_0, hx194_1⟩ := at_impl_Peg HR0.out x8_1 p194 q194
     cases e194
     replace hx194_0 := hC HB hx194_0; replace hx194_1 := hC HB hx194_1; replace p194 := eq_true p194; replace q194 := eq_true q194
     go_wp2_with (first | ((with_reducible refine gate_tmp rfl ?_); refine goesLT_ (some 16) rfl rfl Try.func122 kR rfl #[.agg #[.int .i64 ((rd_impl_Peg l0 x8_1).f0), .int .i64 ((rd_impl_Peg l0 x8_1).f1)]] rfl (by first | rfl | (simp [Act.eval]; done)) sQ ?_; (with_reducible refine (impl_arePegs_1.calls ((rd_impl_Peg l0 x8_1).f0) ((rd_impl_Peg l0 x8_1).f1) true _ A5.out).mono ?_); rintro e w7 ⟨rfl, hb⟩; refine ⟨_, rfl, ?_⟩; replace HB := tB HB hb; (try clear hb); (try clear hb2); (try clear hk); (try clear hi)))
     go_ret
     exact ⟨wQ, bQ⟩
    ·replace c6 := Bool.eq_false_iff.mpr c6; subst c6; replace H := iF H; have H' := aM H; clear H; have p194 : 0 ≤ (x8_1 : Int) := dT aQ; have q194 : x8_1 < (l0.length : Int) := dT aQ; obtain ⟨ad194, e194, hx194_0, hx194_1⟩ := at_impl_Peg HR0.out x8_1 p194 q194
     cases e194
     replace hx194_0 := hC HB hx194_0; replace hx194_1 := hC HB hx194_1; replace p194 := eq_true p194; replace q194 := eq_true q194
     go_wp2_with (first | ((with_reducible refine gate_tmp rfl ?_); refine goesLT_ (some 16) rfl rfl Try.func122 kR rfl #[.agg #[.int .i64 ((rd_impl_Peg l0 x8_1).f0), .int .i64 ((rd_impl_Peg l0 x8_1).f1)]] rfl (by first | rfl | (simp [Act.eval]; done)) sQ ?_; (with_reducible refine (impl_arePegs_1.calls ((rd_impl_Peg l0 x8_1).f0) ((rd_impl_Peg l0 x8_1).f1) false _ A5.out).mono ?_); rintro e w8 ⟨rfl, hb⟩; refine ⟨_, rfl, ?_⟩; replace HB := tB HB hb; (try clear hb); (try clear hb2); (try clear hk); (try clear hi)))
     go_roundg k1
     case measure => have := HK1.out; omega
     case rel => exact ⟨(wrap64 (x8_1 + 1)), eQ, H', ⟨by have := HK1.out; omega⟩, ⟨bQ⟩⟩
   ·rw [if_neg c2] at H; have c2b0 := decide_eq_false c2; clear c2; obtain rfl := Option.some.inj H; go_wp2
    go_ret
    exact ⟨wQ, bQ⟩

def slices_ContainsFunc_impl_Peg_at_impl_arePegs_1.f (k : Nat) (l0 : List (S_impl_Peg)) : Option (Bool) := (slices_IndexFunc_impl_Peg_at_impl_arePegs_1.f k l0).bind fun t196 => (some (decide (t196 ≥ 0)))
theorem slices_ContainsFunc_impl_Peg_at_impl_arePegs_1.mono : ∀ a0 k, LeO (slices_ContainsFunc_impl_Peg_at_impl_arePegs_1.f k a0) (slices_ContainsFunc_impl_Peg_at_impl_arePegs_1.f (k + 1) a0) := by
 intro a0 k
 unfold slices_ContainsFunc_impl_Peg_at_impl_arePegs_1.f
 repeat' first | (with_reducible exact slices_IndexFunc_impl_Peg_at_impl_arePegs_1.mono _ _) | (with_reducible exact LeO.refl _) | (with_reducible exact LeO.none _) | (with_reducible refine LeO.ite ?_ ?_) | (with_reducible refine LeO.bind ?_ (fun _ => ?_)) | exact slices_IndexFunc_impl_Peg_at_impl_arePegs_1.mono _ _ | exact LeO.none _ | refine LeO.ite ?_ ?_ | refine LeO.bind ?_ (fun _ => ?_)
set_option maxHeartbeats 8000000 in
set_option maxRecDepth 100000 in
theorem slices_ContainsFunc_impl_Peg_at_impl_arePegs_1.calls (k : Nat) (A0 : Option Addr) (c0 : Nat) (l0 : List (S_impl_Peg)) (r : Bool) (w : World) (hr0 : Kd.C kd_impl_Peg w A0 l0.length l0) (hc0 : l0.length ≤ c0) (h : slices_ContainsFunc_impl_Peg_at_impl_arePegs_1.f k l0 = some r) :
  Calls Try.prog 121 #[.slice A0 l0.length c0, .func (.func 122) #[] #[]] w fun e w' => e = .returned (.bool r) ∧ Below w.heap.size w w' := by
 have HR0 := aM hr0; have HC0 := aM hc0; clear hr0 hc0; have HB := aM (Below.refl w.heap.size w)
 unfold slices_ContainsFunc_impl_Peg_at_impl_arePegs_1.f at h; have H := h; clear h
 replace H := bS H; obtain ⟨t196, A2, H⟩ := H; obtain rfl := Option.some.inj H
 go_enter Try.func121, Try.ntmps121
 go_wp2_with (first | ((with_reducible refine gC (f := 139) rfl ?_); refine goesL_ (some 7) rfl rfl Try.func139 kR rfl #[.slice A0 l0.length c0, .func (.func 122) #[] #[]] rfl sQ ?_; (with_reducible refine (slices_IndexFunc_impl_Peg_at_impl_arePegs_1.calls k _ _ l0 t196 _ ?side1 ?side2 A2.out).mono ?_); (case side1 => repeat (first | exact HR0.out | (with_reducible refine cA ?_ _) | (with_reducible refine cN ?_ _) | (with_reducible refine cD ?_))); (case side2 => exact HC0.out); rintro e w3 ⟨rfl, hb⟩; refine ⟨_, rfl, ?_⟩; replace HB := tB HB hb; (try clear hb); (try clear hb2); (try clear hk); (try clear hi)))
 go_ret
 exact ⟨wQ, bQ⟩

def impl_arePegs.f (k : Nat) (l0 : List (S_impl_Peg)) : Option (Bool) := (slices_ContainsFunc_impl_Peg_at_impl_arePegs_1.f k l0).bind fun t197 => (some (!t197))
theorem impl_arePegs.mono : ∀ a0 k, LeO (impl_arePegs.f k a0) (impl_arePegs.f (k + 1) a0) := by
 intro a0 k
 unfold impl_arePegs.f
 repeat' first | (with_reducible exact slices_ContainsFunc_impl_Peg_at_impl_arePegs_1.mono _ _) | (with_reducible exact LeO.refl _) | (with_reducible exact LeO.none _) | (with_reducible refine LeO.ite ?_ ?_) | (with_reducible refine LeO.bind ?_ (fun _ => ?_)) | exact slices_ContainsFunc_impl_Peg_at_impl_arePegs_1.mono _ _ | exact LeO.none _ | refine LeO.ite ?_ ?_ | refine LeO.bind ?_ (fun _ => ?_)
set_option maxHeartbeats 8000000 in
set_option maxRecDepth 100000 in
theorem impl_arePegs.calls (k : Nat) (A0 : Option Addr) (c0 : Nat) (l0 : List (S_impl_Peg)) (r : Bool) (w : World) (hr0 : Kd.C kd_impl_Peg w A0 l0.length l0) (hc0 : l0.length ≤ c0) (h : impl_arePegs.f k l0 = some r) :
  Calls Try.prog 74 #[.slice A0 l0.length c0] w fun e w' => e = .returned (.bool r) ∧ Below w.heap.size w w' := by
 have HR0 := aM hr0; have HC0 := aM hc0; clear hr0 hc0; have HB := aM (Below.refl w.heap.size w)
 unfold impl_arePegs.f at h; have H := h; clear h
 replace H := bS H; obtain ⟨t197, A2, H⟩ := H; obtain rfl := Option.some.inj H
 go_enter Try.func74, Try.ntmps74
 go_wp2_with (first | ((with_reducible refine gC (f := 121) rfl ?_); refine goesL_ (some 4) rfl rfl Try.func121 kR rfl #[.slice A0 l0.length c0, .func (.func 122) #[] #[]] rfl sQ ?_; (with_reducible refine (slices_ContainsFunc_impl_Peg_at_impl_arePegs_1.calls k _ _ l0 t197 _ ?side1 ?side2 A2.out).mono ?_); (case side1 => repeat (first | exact HR0.out | (with_reducible refine cA ?_ _) | (with_reducible refine cN ?_ _) | (with_reducible refine cD ?_))); (case side2 => exact HC0.out); rintro e w3 ⟨rfl, hb⟩; refine ⟨_, rfl, ?_⟩; replace HB := tB HB hb; (try clear hb); (try clear hb2); (try clear hk); (try clear hi)))
 go_ret
 exact ⟨wQ, bQ⟩

def impl_at.f (l0 : List (S_impl_Peg)) (a1 : Int) : Option (Int × Int) := if (l0.length : Int) = 0 then (none) else (if 0 ≤ (Int.tmod (wrap64 ((Int.tmod a1 (l0.length : Int)) + (l0.length : Int))) (l0.length : Int)) then (if (Int.tmod (wrap64 ((Int.tmod a1 (l0.length : Int)) + (l0.length : Int))) (l0.length : Int)) < (l0.length : Int) then (some ((rd_impl_Peg l0 (Int.tmod (wrap64 ((Int.tmod a1 (l0.length : Int)) + (l0.length : Int))) (l0.length : Int))).f0, (rd_impl_Peg l0 (Int.tmod (wrap64 ((Int.tmod a1 (l0.length : Int)) + (l0.length : Int))) (l0.length : Int))).f1)) else (none)) else (none))
set_option maxHeartbeats 8000000 in
set_option maxRecDepth 100000 in
theorem impl_at.calls (A0 : Option Addr) (c0 : Nat) (l0 : List (S_impl_Peg)) (a1 : Int) (r1 : Int) (r2 : Int) (w : World) (hr0 : Kd.C kd_impl_Peg w A0 l0.length l0) (hc0 : l0.length ≤ c0) (h : impl_at.f l0 a1 = some (r1, r2)) :
  Calls Try.prog 108 #[.slice A0 l0.length c0, .int .i64 a1] w fun e w' => e = .returned (.agg #[.int .i64 r1, .int .i64 r2]) ∧ Below w.heap.size w w' := by
 have hu26 := Try.underlying26; have HR0 := aM hr0; have HC0 := aM hc0; clear hr0 hc0; have HB := aM (Below.refl w.heap.size w)
 unfold impl_at.f at h; have H := h; clear h
 replace H := iM H; obtain ⟨c3, H⟩ := H; have c3b0 : ((l0.length : Int) == 0) = false := beq_eq_false_iff_ne.mpr c3; have c3b1 : ((l0.length : Int) != 0) = true := bne_iff_ne.mpr c3; have c3b2 : ¬ (l0 = []) := fun h_ => c3 (by rw [h_]; rfl)
 obtain ⟨ji4, hji4⟩ : ∃ j_ : Int, (Int.tmod (wrap64 ((Int.tmod a1 (l0.length : Int)) + (l0.length : Int))) (l0.length : Int)) = j_ := ⟨_, rfl⟩
 (first | rw [hji4] at H | simp only [hji4] at H)
 replace H := iD H; obtain ⟨c5b0, H⟩ := H; replace H := iD H; obtain ⟨c6b0, H⟩ := H
 simp only [Option.some.injEq, Prod.mk.injEq] at H
 obtain ⟨rfl, rfl⟩ := H
 go_enter Try.func108, Try.ntmps108
 go_wp2_with (first | ((with_reducible refine gate_dst (N := 4) rfl ?_); refine bV 4 (cs := #[.int .i64 0, .int .i64 0]) (t := 26) rfl rfl (by first | (go_simp; done) | (go_simp; rfl)) ?_; intro gb198 hg w7 hbox hb; have BK198 := hbox; have GW198 := gZ HB hg; have GE198 := gZ HB hg; replace HB := tB HB hb; clear hb hbox hg; have p199 : 0 ≤ ((ji4) : Int) := dT aQ; have q199 : (ji4) < (l0.length : Int) := dT aQ; obtain ⟨ad199, e199, hx199_0, hx199_1⟩ := at_impl_Peg HR0.out (ji4) p199 q199; cases e199; replace hx199_0 := hC HB hx199_0; replace hx199_1 := hC HB hx199_1; replace p199 := eq_true p199; replace q199 := eq_true q199; have hcz8_0 := vZ0 BK198; have hcz8_1 := vZ1 BK198; have hfz8_0 := kF BK198.out 0; have hfz8_1 := kF BK198.out 1))
 refine bodyPost_ret (results_cell_row rfl _ _ gb198 26 #[.int .i64 ((rd_impl_Peg l0 (ji4)).f0), .int .i64 ((rd_impl_Peg l0 (ji4)).f1)] (0, 0) _ rfl (fQ BK198) Try.underlying26 rfl kR) rfl ?_
 exact ⟨by first | rfl | (simp [errW_none, errW_some] <;> rfl) | (simp only [← hji4]; first | rfl | (simp [errW_none, errW_some] <;> rfl)) | (simp [*, errW_none, errW_some] <;> rfl), bE⟩
end Go.Proofs.Ytklhakfmegbobaa.X
