-- thin
-- short
-- compact
import Derived.Test.YtklhakfmegbobaaXA
import Derived.Test.YtklhakfmegbobaaX0
import Derived.Test.YtklhakfmegbobaaX5
namespace Go.Proofs.Ytklhakfmegbobaa.X
open Go.RowKit Go.Proofs.Ytklhakfmegbobaa.XW Go.Proofs.YtklhakfmegbobaaW.PrintWords Go.Proofs.YtklhakfmegbobaaW.PrintLast Go.Proofs.YtklhakfmegbobaaW.PrintMore
attribute [local go_sem] max2_int min2_int max_two min_two max_three min_three max_four min_four   -- for this text's walks alone
set_option linter.unusedVariables false
set_option linter.unusedSimpArgs false

def laws_szPegS.f (l0 : List (S_laws_Peg)) (a1 : Int) : Option (Int) := if (wrap64 (a1 - (l0.length : Int))) < 0 then (some (-1)) else (some (wrap64 (a1 - (l0.length : Int))))
set_option maxHeartbeats 8000000 in
set_option maxRecDepth 100000 in
theorem laws_szPegS.calls (A0 : Option Addr) (c0 : Nat) (l0 : List (S_laws_Peg)) (a1 : Int) (r : Int) (w : World) (hr0 : Kd.C kd_laws_Peg w A0 l0.length l0) (hc0 : l0.length ≤ c0) (h : laws_szPegS.f l0 a1 = some r) :
  Calls Try.prog 15 #[.slice A0 l0.length c0, .int .i64 a1] w fun e w' => e = .returned (.int .i64 r) ∧ Drawn0 w w' := by
 have HR0 := aM hr0; have HC0 := aM hc0; clear hr0 hc0
 unfold laws_szPegS.f at h; have H := h; clear h
 by_cases c3 : (wrap64 (a1 - (l0.length : Int))) < 0
 ·rw [if_pos c3] at H; have c3b0 := dE c3; clear c3; obtain rfl := Option.some.inj H
  go_enter Try.func15, Try.ntmps15
  go_wp2
  go_ret
  exact ⟨eQ, dQ⟩
 ·rw [if_neg c3] at H; have c3b0 := decide_eq_false c3; clear c3; obtain rfl := Option.some.inj H
  go_enter Try.func15, Try.ntmps15
  go_wp2
  go_ret
  exact ⟨eQ, dQ⟩

def laws_toPeg.f (a0_0 : Int) (a0_1 : Int) : Option (Int × Int) := some (a0_0, a0_1)
set_option maxHeartbeats 8000000 in
set_option maxRecDepth 100000 in
theorem laws_toPeg.calls (a0_0 : Int) (a0_1 : Int) (r1 : Int) (r2 : Int) (w : World) (h : laws_toPeg.f a0_0 a0_1 = some (r1, r2)) :
  Calls Try.prog 45 #[.agg #[.int .i64 a0_0, .int .i64 a0_1]] w fun e w' => e = .returned (.agg #[.int .i64 r1, .int .i64 r2]) ∧ Below w.heap.size w w' := by
 have hu57 := Try.underlying57; have hu26 := Try.underlying26; have HB := aM (Below.refl w.heap.size w)
 unfold laws_toPeg.f at h; have H := h; clear h
 simp only [Option.some.injEq, Prod.mk.injEq] at H
 obtain ⟨rfl, rfl⟩ := H
 go_enter Try.func45, Try.ntmps45
 go_wp2_with (first | ((with_reducible refine gate_dst (N := 1) rfl ?_); refine bV 1 (cs := #[.int .i64 a0_0, .int .i64 a0_1]) (t := 57) rfl rfl (by first | (go_simp; done) | (go_simp; rfl)) ?_; intro gb512 hg w2 hbox hb; have BK512 := hbox; have GW512 := gZ HB hg; have GE512 := gZ HB hg; replace HB := tB HB hb; clear hb hbox hg) | ((with_reducible refine gate_dst (N := 2) rfl ?_); refine bV 2 (cs := #[.int .i64 0, .int .i64 0]) (t := 26) rfl rfl (by first | (go_simp; done) | (go_simp; rfl)) ?_; intro gb513 hg w3 hbox hb; have BK513 := hbox; have GW513 := gZ HB hg; have GE513 := gZ HB hg; have NB512_513 := nG BK512 hg; have NB513_512 := nH BK512 hg; replace BK512 := bB BK512 hb; replace HB := tB HB hb; clear hb hbox hg) | ((with_reducible refine gate_dst (N := 3) rfl ?_); refine bV 3 (cs := #[.int .i64 0, .int .i64 0]) (t := 26) rfl rfl (by first | (go_simp; done) | (go_simp; rfl)) ?_; intro gb514 hg w4 hbox hb; have BK514 := hbox; have GW514 := gZ HB hg; have GE514 := gZ HB hg; have NB512_514 := nG BK512 hg; have NB514_512 := nH BK512 hg; have NB513_514 := nG BK513 hg; have NB514_513 := nH BK513 hg; replace BK512 := bB BK512 hb; replace BK513 := bB BK513 hb; replace HB := tB HB hb; clear hb hbox hg; have hnb5 := NB512_513.out; have hnc5 := NB513_512.out; have hnb6 := NB512_514.out; have hnc6 := NB514_512.out; have hcz7_0 := vZ0 BK512; have hcz7_1 := vZ1 BK512; have hfz7_0 := kF BK512.out 0; have hfz7_1 := kF BK512.out 1; have hnb8 := NB514_513.out; have hnc8 := NB513_514.out; have hcz9_0 := vZ0 BK514; have hcz9_1 := vZ1 BK514; have hfz9_0 := kF BK514.out 0; have hfz9_1 := kF BK514.out 1; have hcz10_0 := vZ0 BK513; have hcz10_1 := vZ1 BK513; have hfz10_0 := kF BK513.out 0; have hfz10_1 := kF BK513.out 1))
 refine bodyPost_ret (results_cell_row rfl _ _ gb513 26 #[.int .i64 a0_0, .int .i64 a0_1] (0, 0) _ rfl (fQ BK513) Try.underlying26 rfl kR) rfl ?_
 exact ⟨wQ, bE⟩

def laws_toPegS.l0 : Nat → List (S_laws_Peg) → List (S_impl_Peg) → Int → Option ((List (S_impl_Peg)))
 | 0, _, _, _ => none
 | k + 1, x0, x3, x4 => if x4 < (x0.length : Int) then (if 0 ≤ x4 then ((laws_toPeg.f ((rd_laws_Peg x0 x4).f0) ((rd_laws_Peg x0 x4).f1)).bind fun bt519 => (if x4 < (x3.length : Int) then (laws_toPegS.l0 k x0 (x3.set (x4 : Int).toNat (⟨bt519.1, bt519.2⟩ : S_impl_Peg)) (wrap64 (x4 + 1))) else (none))) else (none)) else (some x3)
def laws_toPegS.f (k : Nat) (l0 : List (S_laws_Peg)) : Option ((List (S_impl_Peg))) := if 0 ≤ (l0.length : Int) then (if ((l0.length : Int) : Int).toNat ≤ 17592186044416 then (laws_toPegS.l0 k l0 (List.replicate ((l0.length : Int) : Int).toNat z_impl_Peg) 0) else (none)) else (none)
theorem laws_toPegS.mono_l : ∀ k, (∀ y0 y1 y2, LeO (laws_toPegS.l0 k y0 y1 y2) (laws_toPegS.l0 (k + 1) y0 y1 y2))
 | 0 => fun _ _ _ r h => by simp [laws_toPegS.l0] at h
 | k + 1 => by
  have ih0 := laws_toPegS.mono_l k
  ·intro y0 y1 y2
   unfold laws_toPegS.l0
   repeat' first
   | (with_reducible exact ih0 _ _ _)
   | (with_reducible exact LeO.refl _)
   | (with_reducible exact LeO.none _)
   | (with_reducible refine LeO.ite ?_ ?_)
   | (with_reducible refine LeO.bind ?_ (fun _ => ?_))
   | exact ih0 _ _ _
   | exact LeO.none _
   | refine LeO.ite ?_ ?_
   | refine LeO.bind ?_ (fun _ => ?_)
theorem laws_toPegS.mono : ∀ a0 k, LeO (laws_toPegS.f k a0) (laws_toPegS.f (k + 1) a0) := by
 intro a0 k
 have ih0 := laws_toPegS.mono_l k
 unfold laws_toPegS.f
 repeat' first | (with_reducible exact ih0 _ _ _) | (with_reducible exact LeO.refl _) | (with_reducible exact LeO.none _) | (with_reducible refine LeO.ite ?_ ?_) | (with_reducible refine LeO.bind ?_ (fun _ => ?_)) | exact ih0 _ _ _ | exact LeO.none _ | refine LeO.ite ?_ ?_ | refine LeO.bind ?_ (fun _ => ?_)
set_option maxHeartbeats 8000000 in
set_option maxRecDepth 100000 in
theorem laws_toPegS.calls (k : Nat) (A0 : Option Addr) (c0 : Nat) (l0 : List (S_laws_Peg)) (r : List (S_impl_Peg)) (w : World) (hr0 : Kd.C kd_laws_Peg w A0 l0.length l0) (hc0 : l0.length ≤ c0) (h : laws_toPegS.f k l0 = some r) :
  Calls Try.prog 17 #[.slice A0 l0.length c0] w fun e w' => ∃ v0_ : Value, e = .returned (v0_) ∧ Kd.R kd_impl_Peg 26 w' w.heap.size (fun _ => True) v0_ r ∧ Below w.heap.size w w' := by
 have hu57 := Try.underlying57; have hu26 := Try.underlying26; have HR0 := aM hr0; have HC0 := aM hc0; clear hr0 hc0; have HB := aM (Below.refl w.heap.size w)
 unfold laws_toPegS.f at h; have H := h; clear h
 replace H := iN H; obtain ⟨c2, H⟩ := H; have c2b0 := eq_true c2; have c2b1 := dE c2; clear c2; replace H := iN H; obtain ⟨c3, H⟩ := H; have c3b0 := eq_true c3; have c3b1 := dE c3; clear c3; obtain ⟨y515, hy515⟩ : ∃ y_ : List (S_impl_Peg), y_ = (List.replicate ((l0.length : Int) : Int).toNat z_impl_Peg) := ⟨_, rfl⟩; rw [← hy515] at H; have Ny515 := aM hy515; clear hy515; have H' := aM H; clear H
 go_enter Try.func17, Try.ntmps17
 go_wp2_with (first | ((with_reducible refine gate_dst (N := 7) rfl ?_); refine Kd.R_make kd_impl_Peg _ 26 rfl (N := 7) rfl 29 _ _ rfl (l0.length : Int) rfl rfl Try.underlying29 (.agg #[(.int .i64 0), (.int .i64 0)]) 16 info26 rfl (by decide) (by omega) z_impl_Peg (ok := fun _ => True) (okp := fun _ => True) (kd_impl_Peg_mkM _ _ _ z_impl_Peg ) (fun _ hk => hk) trivial (dT aQ) (Nat.le_trans (Nat.mul_le_mul_right _ (dT aQ : (l0.length : Int).toNat ≤ 17592186044416)) (by omega)) (Below.refl _ _) (Nat.le_refl _) ?_; intro v516 w4 ho5 hb hg_ hnew_; clear hg_ hnew_; (first | rw [← Ny515.out] at ho5 | (simp only [Int.reduceToNat] at ho5; rw [← Ny515.out] at ho5)); have HO517 := aM (Kd.R_lower ho5 (pZ bQ)); replace HB := tB HB hb; clear hb ho5))
 go_loopg [4] k (fun kq v4 w' => ∃ (x3_1 : List (S_impl_Peg)) (x4_1 : Int), v4 = .int .i64 x4_1 ∧ Aside0 (laws_toPegS.l0 kq l0 x3_1 x4_1 = some r) ∧ Aside0 (kq ≤ k) ∧ Aside0 (Kd.R kd_impl_Peg 26 w' w.heap.size (fun _ => True) v516 x3_1) ∧ Aside0 (Below w.heap.size w w'))
 case atStart => exact ⟨(y515), (0), eQ, H', ⟨Nat.le_refl _⟩, ⟨by (with_reducible repeat (first | apply rA | apply rN | apply rD)); exact HO517.out⟩, ⟨bQ⟩⟩
 case round =>
  clear H'; (try clear c2); (try clear c2b0); (try clear c2b1); (try clear c3); (try clear c3b0); (try clear c3b1); obtain ⟨x3_1, x4_1, rfl, HA, HK1, HO_3, HB⟩ := hrel
  cases gk with
  | zero => exact absurd HA.out (by simp [laws_toPegS.l0])
  | succ k1 =>
   have H := HA.out; clear HA
   simp only [laws_toPegS.l0] at H
   by_cases c6 : x4_1 < (l0.length : Int)
   ·rw [if_pos c6] at H; have c6b0 := dE c6; clear c6; replace H := iD H; obtain ⟨c7b0, H⟩ := H; replace H := bS H; obtain ⟨⟨t519, t520⟩, A8, H⟩ := H; replace H := iD H; obtain ⟨c9b0, H⟩ := H; obtain ⟨y521, hy521⟩ : ∃ y_ : List (S_impl_Peg), y_ = (x3_1.set (x4_1 : Int).toNat (⟨t519, t520⟩ : S_impl_Peg)) := ⟨_, rfl⟩; rw [← hy521] at H; have Ny521 := aM hy521; clear hy521; have H' := aM H; clear H; have p518 : 0 ≤ (x4_1 : Int) := dT aQ; have q518 : x4_1 < (l0.length : Int) := dT aQ; obtain ⟨ad518, e518, hx518_0, hx518_1⟩ := at_laws_Peg HR0.out x4_1 p518 q518
    cases e518
    replace hx518_0 := hC HB hx518_0; replace hx518_1 := hC HB hx518_1; replace p518 := eq_true p518; replace q518 := eq_true q518
    go_wp2_with (first | ((with_reducible refine gC (f := 45) rfl ?_); refine goesL_ (some 20) rfl rfl Try.func45 kR rfl #[.agg #[.int .i64 ((rd_laws_Peg l0 x4_1).f0), .int .i64 ((rd_laws_Peg l0 x4_1).f1)]] rfl sQ ?_; (with_reducible refine (laws_toPeg.calls ((rd_laws_Peg l0 x4_1).f0) ((rd_laws_Peg l0 x4_1).f1) t519 t520 _ A8.out).mono ?_); rintro e w11 ⟨rfl, hb⟩; refine ⟨_, rfl, ?_⟩; replace HO_3 := aM (Kd.R_below (by (with_reducible repeat (first | apply rA | apply rN | apply rD)); exact HO_3.out) hb); replace HB := tB HB hb; (try clear hb); (try clear hb2); (try clear hk); (try clear hi); have p10 : 0 ≤ (x4_1 : Int) := dT aQ; have q10 : (x4_1 : Int) < ((x3_1.length : Int) : Int) := dT aQ; obtain ⟨go10, co10, eo10, gb10, gl10, cl10, HG10⟩ := Kd.R_form HO_3.out (by omega); (first | cases eo10 | (injection eo10 with ea_ en_ ec_; (first | subst ea_ | (injection ea_ with ea_; subst ea_)); subst ec_; clear en_)); have GB10 := aM gb10; have GG10 := aM HG10; clear gb10 gl10 HG10; obtain ⟨ce10, hcl10, hM10, hcc10, hfr10⟩ := Kd.R_elem HO_3.out z_impl_Peg (x4_1 : Int) p10 q10; obtain rfl := kd_impl_Peg_openM hM10; have hx10_0 : w11.cell? ⟨go10, (x4_1 : Int).toNat * 2, none⟩ = some (.int .i64 ((rd_impl_Peg x3_1 x4_1).f0)) := hcc10 0 _ rfl; have hx10_1 : w11.cell? ⟨go10, (x4_1 : Int).toNat * 2 + 1, none⟩ = some (.int .i64 ((rd_impl_Peg x3_1 x4_1).f1)) := hcc10 1 _ rfl; have hf10_0 : w11.frozen? ⟨go10, (x4_1 : Int).toNat * 2, none⟩ = false := hfr10 0; have hf10_1 : w11.frozen? ⟨go10, (x4_1 : Int).toNat * 2 + 1, none⟩ = false := hfr10 1; clear hcl10 hcc10 hfr10 hM10; replace p10 := eq_true p10; replace q10 := eq_true q10; have HX12 := aM (show Kd.R kd_impl_Peg 26 w11 w.heap.size (fun _ => True) (.slice (some ⟨go10, 0, none⟩) x3_1.length co10) x3_1 from (by (with_reducible repeat (first | apply rA | apply rN | apply rD)); exact HO_3.out)); obtain ⟨ce12, hcl12, hM12, hcc12, hfr12⟩ := Kd.R_elem HX12.out z_impl_Peg (x4_1 : Int) (dT aQ) (by have h_ : (x4_1 : Int) < ((x3_1.length : Int) : Int) := dT aQ; first | exact h_ | (have e_ := (rR HO_3.out).1; omega) | simpa using h_); obtain rfl := kd_impl_Peg_openM hM12; have HP12 := Kd.R_seg HX12.out (x4_1 : Int) (dT aQ) (by have h_ : (x4_1 : Int) < ((x3_1.length : Int) : Int) := dT aQ; first | exact h_ | (have e_ := (rR HO_3.out).1; omega) | simpa using h_) (seg := [.int .i64 t519, .int .i64 t520]) (j := 0) hcl12 hcc12 (show 2 ≤ 2 from by decide) (x' := (⟨t519, t520⟩ : S_impl_Peg)) (kd_impl_Peg_mkM _ _ _ (⟨t519, t520⟩ : S_impl_Peg) ) (fun _ hk => hk); have hx12_0 := hcc12 0 _ rfl; (try simp only [show (kd_impl_Peg).sz = 2 from rfl, Nat.mul_one, Nat.add_zero] at hx12_0); have hf12_0 := hfr12 0; (try simp only [show (kd_impl_Peg).sz = 2 from rfl, Nat.mul_one, Nat.add_zero] at hf12_0); have hx12_1 := hcc12 1 _ rfl; (try simp only [show (kd_impl_Peg).sz = 2 from rfl, Nat.mul_one, Nat.add_zero] at hx12_1); have hf12_1 := hfr12 1; (try simp only [show (kd_impl_Peg).sz = 2 from rfl, Nat.mul_one, Nat.add_zero] at hf12_1); clear hcl12 hcc12 hfr12 hM12) | ((with_reducible refine gate_store (t := 26) (p := 21) rfl ?_); refine store_event (t := 26) (p := 21) (v := ?vo_w13) (w1 := ((w11.setCell ⟨go10, (x4_1 : Int).toNat * 2, none⟩ (.int .i64 t519)).setCell ⟨go10, (x4_1 : Int).toNat * 2 + 1, none⟩ (.int .i64 t520))) ?hg ?ho ?hn ?hr ?_; (case ho => rfl); (case hg => rfl); (case hn => rfl); (case hr => first | (go_simp; done) | (go_simp; rfl)); intro w13 hw; have hg : w11.grownBy w13 (some go10) := (by rw [hw]; exact HP12.2); have hp_ : Kd.R kd_impl_Peg 26 w13 w.heap.size (fun _ => True) (.slice (some ⟨go10, 0, none⟩) x3_1.length co10) y521 := (by rw [hw, Ny521.out]; exact HP12.1); clear HP12; replace HO_3 := aM (hp_); replace HB := aM ((by rw [hw]; exact pS (pS (HB.out) GB10.out) GB10.out : Below w.heap.size w w13)); clear hg hw hp_))
    go_roundg k1
    case measure => have := HK1.out; omega
    case rel => exact ⟨(y521), (wrap64 (x4_1 + 1)), eQ, H', ⟨by have := HK1.out; omega⟩, ⟨by (with_reducible repeat (first | apply rA | apply rN | apply rD)); exact HO_3.out⟩, ⟨bQ⟩⟩
   ·rw [if_neg c6] at H; have c6b0 := decide_eq_false c6; clear c6; obtain rfl := Option.some.inj H; go_wp2
    go_ret
    exact ⟨_, by first | rfl | (simp [errW_none, errW_some] <;> rfl) | (simp [*, errW_none, errW_some] <;> rfl), by (with_reducible repeat (first | apply rA | apply rN | apply rD)); exact HO_3.out, bQ⟩
def spec_pgOn.f (a0_0 : Int) (a0_1 : Int) (a1_0 : Int) (a1_1 : Int) (a2_0 : Int) (a2_1 : Int) : Option (Bool) := (spec_pgTurn.f a0_0 a0_1 a1_0 a1_1 a2_0 a2_1).bind fun t525 => (if t525 = 0 then (if (wrap64 ((wrap64 (a0_0 - a2_0)) * (wrap64 (a1_0 - a2_0)))) ≤ 0 then (some (decide ((wrap64 ((wrap64 (a0_1 - a2_1)) * (wrap64 (a1_1 - a2_1)))) ≤ 0))) else (some false)) else (some false))
set_option maxHeartbeats 8000000 in
set_option maxRecDepth 100000 in
theorem spec_pgOn.calls (a0_0 : Int) (a0_1 : Int) (a1_0 : Int) (a1_1 : Int) (a2_0 : Int) (a2_1 : Int) (r : Bool) (w : World) (h : spec_pgOn.f a0_0 a0_1 a1_0 a1_1 a2_0 a2_1 = some r) :
  Calls Try.prog 133 #[.agg #[.int .i64 a0_0, .int .i64 a0_1], .agg #[.int .i64 a1_0, .int .i64 a1_1], .agg #[.int .i64 a2_0, .int .i64 a2_1]] w fun e w' => e = .returned (.bool r) ∧ Below w.heap.size w w' := by
 have hu26 := Try.underlying26; have HB := aM (Below.refl w.heap.size w)
 unfold spec_pgOn.f at h; have H := h; clear h
 replace H := bS H; obtain ⟨t525, A4, H⟩ := H
 by_cases c5 : t525 = 0
 ·rw [if_pos c5] at H; have c5b0 : (t525 == 0) = true := beq_iff_eq.mpr c5; have c5b1 : (t525 != 0) = false := bne_eq_false_iff_eq.mpr c5; clear c5
  by_cases c6 : (wrap64 ((wrap64 (a0_0 - a2_0)) * (wrap64 (a1_0 - a2_0)))) ≤ 0
  ·rw [if_pos c6] at H; have c6b0 := dE c6; clear c6; obtain rfl := Option.some.inj H
   go_enter Try.func133, Try.ntmps133
   go_wp2_with (first | ((with_reducible refine gate_dst (N := 3) rfl ?_); refine bV 3 (cs := #[.int .i64 a0_0, .int .i64 a0_1]) (t := 26) rfl rfl (by first | (go_simp; done) | (go_simp; rfl)) ?_; intro gb522 hg w7 hbox hb; have BK522 := hbox; have GW522 := gZ HB hg; have GE522 := gZ HB hg; replace HB := tB HB hb; clear hb hbox hg) | ((with_reducible refine gate_dst (N := 4) rfl ?_); refine bV 4 (cs := #[.int .i64 a1_0, .int .i64 a1_1]) (t := 26) rfl rfl (by first | (go_simp; done) | (go_simp; rfl)) ?_; intro gb523 hg w8 hbox hb; have BK523 := hbox; have GW523 := gZ HB hg; have GE523 := gZ HB hg; have NB522_523 := nG BK522 hg; have NB523_522 := nH BK522 hg; replace BK522 := bB BK522 hb; replace HB := tB HB hb; clear hb hbox hg) | ((with_reducible refine gate_dst (N := 5) rfl ?_); refine bV 5 (cs := #[.int .i64 a2_0, .int .i64 a2_1]) (t := 26) rfl rfl (by first | (go_simp; done) | (go_simp; rfl)) ?_; intro gb524 hg w9 hbox hb; have BK524 := hbox; have GW524 := gZ HB hg; have GE524 := gZ HB hg; have NB522_524 := nG BK522 hg; have NB524_522 := nH BK522 hg; have NB523_524 := nG BK523 hg; have NB524_523 := nH BK523 hg; replace BK522 := bB BK522 hb; replace BK523 := bB BK523 hb; replace HB := tB HB hb; clear hb hbox hg; have hnb10 := NB522_523.out; have hnc10 := NB523_522.out; have hnb11 := NB522_524.out; have hnc11 := NB524_522.out; have hcz12_0 := vZ0 BK522; have hcz12_1 := vZ1 BK522; have hfz12_0 := kF BK522.out 0; have hfz12_1 := kF BK522.out 1; have hnb13 := NB523_524.out; have hnc13 := NB524_523.out; have hcz14_0 := vZ0 BK523; have hcz14_1 := vZ1 BK523; have hfz14_0 := kF BK523.out 0; have hfz14_1 := kF BK523.out 1; have hcz15_0 := vZ0 BK524; have hcz15_1 := vZ1 BK524; have hfz15_0 := kF BK524.out 0; have hfz15_1 := kF BK524.out 1) | ((with_reducible refine gC (f := 106) rfl ?_); refine goesL_ (some 10) rfl rfl Try.func106 kR rfl #[.agg #[.int .i64 a0_0, .int .i64 a0_1], .agg #[.int .i64 a1_0, .int .i64 a1_1], .agg #[.int .i64 a2_0, .int .i64 a2_1]] rfl sQ ?_; (with_reducible refine (spec_pgTurn.calls a0_0 a0_1 a1_0 a1_1 a2_0 a2_1 t525 _ A4.out).mono ?_); rintro e w16 ⟨rfl, hb⟩; refine ⟨_, rfl, ?_⟩; replace BK522 := bB BK522 hb; replace BK523 := bB BK523 hb; replace BK524 := bB BK524 hb; replace HB := tB HB hb; (try clear hb); (try clear hb2); (try clear hk); (try clear hi); have hcz17_0 := vZ0 BK522; have hcz17_1 := vZ1 BK522; have hfz17_0 := kF BK522.out 0; have hfz17_1 := kF BK522.out 1; have hcz18_0 := vZ0 BK524; have hcz18_1 := vZ1 BK524; have hfz18_0 := kF BK524.out 0; have hfz18_1 := kF BK524.out 1; have hcz19_0 := vZ0 BK523; have hcz19_1 := vZ1 BK523; have hfz19_0 := kF BK523.out 0; have hfz19_1 := kF BK523.out 1))
   go_ret
   exact ⟨wQ, bE⟩
  ·rw [if_neg c6] at H; have c6b0 := decide_eq_false c6; clear c6; obtain rfl := Option.some.inj H
   go_enter Try.func133, Try.ntmps133
   go_wp2_with (first | ((with_reducible refine gate_dst (N := 3) rfl ?_); refine bV 3 (cs := #[.int .i64 a0_0, .int .i64 a0_1]) (t := 26) rfl rfl (by first | (go_simp; done) | (go_simp; rfl)) ?_; intro gb522 hg w20 hbox hb; have BK522 := hbox; have GW522 := gZ HB hg; have GE522 := gZ HB hg; replace HB := tB HB hb; clear hb hbox hg) | ((with_reducible refine gate_dst (N := 4) rfl ?_); refine bV 4 (cs := #[.int .i64 a1_0, .int .i64 a1_1]) (t := 26) rfl rfl (by first | (go_simp; done) | (go_simp; rfl)) ?_; intro gb523 hg w21 hbox hb; have BK523 := hbox; have GW523 := gZ HB hg; have GE523 := gZ HB hg; have NB522_523 := nG BK522 hg; have NB523_522 := nH BK522 hg; replace BK522 := bB BK522 hb; replace HB := tB HB hb; clear hb hbox hg) | ((with_reducible refine gate_dst (N := 5) rfl ?_); refine bV 5 (cs := #[.int .i64 a2_0, .int .i64 a2_1]) (t := 26) rfl rfl (by first | (go_simp; done) | (go_simp; rfl)) ?_; intro gb524 hg w22 hbox hb; have BK524 := hbox; have GW524 := gZ HB hg; have GE524 := gZ HB hg; have NB522_524 := nG BK522 hg; have NB524_522 := nH BK522 hg; have NB523_524 := nG BK523 hg; have NB524_523 := nH BK523 hg; replace BK522 := bB BK522 hb; replace BK523 := bB BK523 hb; replace HB := tB HB hb; clear hb hbox hg; have hnb23 := NB522_523.out; have hnc23 := NB523_522.out; have hnb24 := NB522_524.out; have hnc24 := NB524_522.out; have hcz25_0 := vZ0 BK522; have hcz25_1 := vZ1 BK522; have hfz25_0 := kF BK522.out 0; have hfz25_1 := kF BK522.out 1; have hnb26 := NB523_524.out; have hnc26 := NB524_523.out; have hcz27_0 := vZ0 BK523; have hcz27_1 := vZ1 BK523; have hfz27_0 := kF BK523.out 0; have hfz27_1 := kF BK523.out 1; have hcz28_0 := vZ0 BK524; have hcz28_1 := vZ1 BK524; have hfz28_0 := kF BK524.out 0; have hfz28_1 := kF BK524.out 1) | ((with_reducible refine gC (f := 106) rfl ?_); refine goesL_ (some 10) rfl rfl Try.func106 kR rfl #[.agg #[.int .i64 a0_0, .int .i64 a0_1], .agg #[.int .i64 a1_0, .int .i64 a1_1], .agg #[.int .i64 a2_0, .int .i64 a2_1]] rfl sQ ?_; (with_reducible refine (spec_pgTurn.calls a0_0 a0_1 a1_0 a1_1 a2_0 a2_1 t525 _ A4.out).mono ?_); rintro e w29 ⟨rfl, hb⟩; refine ⟨_, rfl, ?_⟩; replace BK522 := bB BK522 hb; replace BK523 := bB BK523 hb; replace BK524 := bB BK524 hb; replace HB := tB HB hb; (try clear hb); (try clear hb2); (try clear hk); (try clear hi); have hcz30_0 := vZ0 BK522; have hcz30_1 := vZ1 BK522; have hfz30_0 := kF BK522.out 0; have hfz30_1 := kF BK522.out 1; have hcz31_0 := vZ0 BK524; have hcz31_1 := vZ1 BK524; have hfz31_0 := kF BK524.out 0; have hfz31_1 := kF BK524.out 1; have hcz32_0 := vZ0 BK523; have hcz32_1 := vZ1 BK523; have hfz32_0 := kF BK523.out 0; have hfz32_1 := kF BK523.out 1))
   go_ret
   exact ⟨wQ, bE⟩
 ·rw [if_neg c5] at H; have c5b0 : (t525 == 0) = false := beq_eq_false_iff_ne.mpr c5; have c5b1 : (t525 != 0) = true := bne_iff_ne.mpr c5; obtain rfl := Option.some.inj H
  go_enter Try.func133, Try.ntmps133
  go_wp2_with (first | ((with_reducible refine gate_dst (N := 3) rfl ?_); refine bV 3 (cs := #[.int .i64 a0_0, .int .i64 a0_1]) (t := 26) rfl rfl (by first | (go_simp; done) | (go_simp; rfl)) ?_; intro gb522 hg w33 hbox hb; have BK522 := hbox; have GW522 := gZ HB hg; have GE522 := gZ HB hg; replace HB := tB HB hb; clear hb hbox hg) | ((with_reducible refine gate_dst (N := 4) rfl ?_); refine bV 4 (cs := #[.int .i64 a1_0, .int .i64 a1_1]) (t := 26) rfl rfl (by first | (go_simp; done) | (go_simp; rfl)) ?_; intro gb523 hg w34 hbox hb; have BK523 := hbox; have GW523 := gZ HB hg; have GE523 := gZ HB hg; have NB522_523 := nG BK522 hg; have NB523_522 := nH BK522 hg; replace BK522 := bB BK522 hb; replace HB := tB HB hb; clear hb hbox hg) | ((with_reducible refine gate_dst (N := 5) rfl ?_); refine bV 5 (cs := #[.int .i64 a2_0, .int .i64 a2_1]) (t := 26) rfl rfl (by first | (go_simp; done) | (go_simp; rfl)) ?_; intro gb524 hg w35 hbox hb; have BK524 := hbox; have GW524 := gZ HB hg; have GE524 := gZ HB hg; have NB522_524 := nG BK522 hg; have NB524_522 := nH BK522 hg; have NB523_524 := nG BK523 hg; have NB524_523 := nH BK523 hg; replace BK522 := bB BK522 hb; replace BK523 := bB BK523 hb; replace HB := tB HB hb; clear hb hbox hg; have hnb36 := NB522_523.out; have hnc36 := NB523_522.out; have hnb37 := NB522_524.out; have hnc37 := NB524_522.out; have hcz38_0 := vZ0 BK522; have hcz38_1 := vZ1 BK522; have hfz38_0 := kF BK522.out 0; have hfz38_1 := kF BK522.out 1; have hnb39 := NB523_524.out; have hnc39 := NB524_523.out; have hcz40_0 := vZ0 BK523; have hcz40_1 := vZ1 BK523; have hfz40_0 := kF BK523.out 0; have hfz40_1 := kF BK523.out 1; have hcz41_0 := vZ0 BK524; have hcz41_1 := vZ1 BK524; have hfz41_0 := kF BK524.out 0; have hfz41_1 := kF BK524.out 1) | ((with_reducible refine gC (f := 106) rfl ?_); refine goesL_ (some 10) rfl rfl Try.func106 kR rfl #[.agg #[.int .i64 a0_0, .int .i64 a0_1], .agg #[.int .i64 a1_0, .int .i64 a1_1], .agg #[.int .i64 a2_0, .int .i64 a2_1]] rfl sQ ?_; (with_reducible refine (spec_pgTurn.calls a0_0 a0_1 a1_0 a1_1 a2_0 a2_1 t525 _ A4.out).mono ?_); rintro e w42 ⟨rfl, hb⟩; refine ⟨_, rfl, ?_⟩; replace BK522 := bB BK522 hb; replace BK523 := bB BK523 hb; replace BK524 := bB BK524 hb; replace HB := tB HB hb; (try clear hb); (try clear hb2); (try clear hk); (try clear hi)))
  go_ret
  exact ⟨wQ, bE⟩

def spec_l1Sign.f (a0 : Int) : Option (Int) := if a0 > 0 then (some 1) else (if a0 < 0 then (some (-1)) else (some 0))
set_option maxHeartbeats 8000000 in
set_option maxRecDepth 100000 in
theorem spec_l1Sign.calls (a0 : Int) (r : Int) (w : World) (h : spec_l1Sign.f a0 = some r) :
  Calls Try.prog 136 #[.int .i64 a0] w fun e w' => e = .returned (.int .i64 r) ∧ Drawn0 w w' := by
 unfold spec_l1Sign.f at h; have H := h; clear h
 by_cases c2 : a0 > 0
 ·rw [if_pos c2] at H; have c2b0 := dE c2; clear c2; obtain rfl := Option.some.inj H
  go_enter Try.func136, Try.ntmps136
  go_wp2
  go_ret
  exact ⟨eQ, dQ⟩
 ·rw [if_neg c2] at H; have c2b0 := decide_eq_false c2; clear c2
  by_cases c3 : a0 < 0
  ·rw [if_pos c3] at H; have c3b0 := dE c3; clear c3; obtain rfl := Option.some.inj H
   go_enter Try.func136, Try.ntmps136
   go_wp2
   go_ret
   exact ⟨eQ, dQ⟩
  ·rw [if_neg c3] at H; have c3b0 := decide_eq_false c3; clear c3; obtain rfl := Option.some.inj H
   go_enter Try.func136, Try.ntmps136
   go_wp2
   go_ret
   exact ⟨eQ, dQ⟩

end Go.Proofs.Ytklhakfmegbobaa.X
