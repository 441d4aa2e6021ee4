-- thin
-- short
-- compact
import Derived.Test.YtklhakfmegbobaaXA
import Derived.Test.YtklhakfmegbobaaX0
namespace Go.Proofs.Ytklhakfmegbobaa.X
open Go.RowKit Go.Proofs.Ytklhakfmegbobaa.XW Go.Proofs.YtklhakfmegbobaaW.PrintWords Go.Proofs.YtklhakfmegbobaaW.PrintLast Go.Proofs.YtklhakfmegbobaaW.PrintMore
attribute [local go_sem] max2_int min2_int max_two min_two max_three min_three max_four min_four   -- for this text's walks alone
set_option linter.unusedVariables false
set_option linter.unusedSimpArgs false

def laws_szPegS.f (l0 : List (S_laws_Peg)) (a1 : Int) : Option (Int) := if (wrap64 (a1 - (l0.length : Int))) < 0 then (some (-1)) else (some (wrap64 (a1 - (l0.length : Int))))
set_option maxHeartbeats 8000000 in
set_option maxRecDepth 100000 in
theorem laws_szPegS.calls (A0 : Option Addr) (c0 : Nat) (l0 : List (S_laws_Peg)) (a1 : Int) (r : Int) (w : World) (hr0 : Kd.C kd_laws_Peg w A0 l0.length l0) (hc0 : l0.length ≤ c0) (h : laws_szPegS.f l0 a1 = some r) :
  Calls Try.prog 15 #[.slice A0 l0.length c0, .int .i64 a1] w fun e w' => e = .returned (.int .i64 r) ∧ Drawn0 w w' := by
 have HR0 := aM hr0; have HC0 := aM hc0; clear hr0 hc0
 unfold laws_szPegS.f at h; have H := h; clear h
 by_cases c3 : (wrap64 (a1 - (l0.length : Int))) < 0
 ·rw [if_pos c3] at H; have c3b0 := dE c3; clear c3; obtain rfl := Option.some.inj H
  go_enter Try.func15, Try.ntmps15
  go_wp2
  go_ret
  exact ⟨eQ, dQ⟩
 ·rw [if_neg c3] at H; have c3b0 := decide_eq_false c3; clear c3; obtain rfl := Option.some.inj H
  go_enter Try.func15, Try.ntmps15
  go_wp2
  go_ret
  exact ⟨eQ, dQ⟩

def laws_toPeg.f (a0_0 : Int) (a0_1 : Int) : Option (Int × Int) := some (a0_0, a0_1)
set_option maxHeartbeats 8000000 in
set_option maxRecDepth 100000 in
theorem laws_toPeg.calls (a0_0 : Int) (a0_1 : Int) (r1 : Int) (r2 : Int) (w : World) (h : laws_toPeg.f a0_0 a0_1 = some (r1, r2)) :
  Calls Try.prog 45 #[.agg #[.int .i64 a0_0, .int .i64 a0_1]] w fun e w' => e = .returned (.agg #[.int .i64 r1, .int .i64 r2]) ∧ Below w.heap.size w w' := by
 have hu57 := Try.underlying57; have hu26 := Try.underlying26; have HB := aM (Below.refl w.heap.size w)
 unfold laws_toPeg.f at h; have H := h; clear h
 simp only [Option.some.injEq, Prod.mk.injEq] at H
 obtain ⟨rfl, rfl⟩ := H
 go_enter Try.func45, Try.ntmps45
 go_wp2_with (first | ((with_reducible refine gate_dst (N := 1) rfl ?_); refine bV 1 (cs := #[.int .i64 a0_0, .int .i64 a0_1]) (t := 57) rfl rfl (by first | (go_simp; done) | (go_simp; rfl)) ?_; intro gb101 hg w2 hbox hb; have BK101 := hbox; have GW101 := gZ HB hg; have GE101 := gZ HB hg; replace HB := tB HB hb; clear hb hbox hg) | ((with_reducible refine gate_dst (N := 2) rfl ?_); refine bV 2 (cs := #[.int .i64 0, .int .i64 0]) (t := 26) rfl rfl (by first | (go_simp; done) | (go_simp; rfl)) ?_; intro gb102 hg w3 hbox hb; have BK102 := hbox; have GW102 := gZ HB hg; have GE102 := gZ HB hg; have NB101_102 := nG BK101 hg; have NB102_101 := nH BK101 hg; replace BK101 := bB BK101 hb; replace HB := tB HB hb; clear hb hbox hg) | ((with_reducible refine gate_dst (N := 3) rfl ?_); refine bV 3 (cs := #[.int .i64 0, .int .i64 0]) (t := 26) rfl rfl (by first | (go_simp; done) | (go_simp; rfl)) ?_; intro gb103 hg w4 hbox hb; have BK103 := hbox; have GW103 := gZ HB hg; have GE103 := gZ HB hg; have NB101_103 := nG BK101 hg; have NB103_101 := nH BK101 hg; have NB102_103 := nG BK102 hg; have NB103_102 := nH BK102 hg; replace BK101 := bB BK101 hb; replace BK102 := bB BK102 hb; replace HB := tB HB hb; clear hb hbox hg; have hnb5 := NB101_102.out; have hnc5 := NB102_101.out; have hnb6 := NB101_103.out; have hnc6 := NB103_101.out; have hcz7_0 := vZ0 BK101; have hcz7_1 := vZ1 BK101; have hfz7_0 := kF BK101.out 0; have hfz7_1 := kF BK101.out 1; have hnb8 := NB103_102.out; have hnc8 := NB102_103.out; have hcz9_0 := vZ0 BK103; have hcz9_1 := vZ1 BK103; have hfz9_0 := kF BK103.out 0; have hfz9_1 := kF BK103.out 1; have hcz10_0 := vZ0 BK102; have hcz10_1 := vZ1 BK102; have hfz10_0 := kF BK102.out 0; have hfz10_1 := kF BK102.out 1))
 refine bodyPost_ret (results_cell_row rfl _ _ gb102 26 #[.int .i64 a0_0, .int .i64 a0_1] (0, 0) _ rfl (fQ BK102) Try.underlying26 rfl kR) rfl ?_
 exact ⟨wQ, bE⟩

def laws_toPegS.l0 : Nat → List (S_laws_Peg) → List (S_impl_Peg) → Int → Option ((List (S_impl_Peg)))
 | 0, _, _, _ => none
 | k + 1, x0, x3, x4 => if x4 < (x0.length : Int) then (if 0 ≤ x4 then ((laws_toPeg.f ((rd_laws_Peg x0 x4).f0) ((rd_laws_Peg x0 x4).f1)).bind fun bt108 => (if x4 < (x3.length : Int) then (laws_toPegS.l0 k x0 (x3.set (x4 : Int).toNat (⟨bt108.1, bt108.2⟩ : S_impl_Peg)) (wrap64 (x4 + 1))) else (none))) else (none)) else (some x3)
def laws_toPegS.f (k : Nat) (l0 : List (S_laws_Peg)) : Option ((List (S_impl_Peg))) := if 0 ≤ (l0.length : Int) then (if ((l0.length : Int) : Int).toNat ≤ 17592186044416 then (laws_toPegS.l0 k l0 (List.replicate ((l0.length : Int) : Int).toNat z_impl_Peg) 0) else (none)) else (none)
theorem laws_toPegS.mono_l : ∀ k, (∀ y0 y1 y2, LeO (laws_toPegS.l0 k y0 y1 y2) (laws_toPegS.l0 (k + 1) y0 y1 y2))
 | 0 => fun _ _ _ r h => by simp [laws_toPegS.l0] at h
 | k + 1 => by
  have ih0 := laws_toPegS.mono_l k
  ·intro y0 y1 y2
   unfold laws_toPegS.l0
   repeat' first
   | (with_reducible exact ih0 _ _ _)
   | (with_reducible exact LeO.refl _)
   | (with_reducible exact LeO.none _)
   | (with_reducible refine LeO.ite ?_ ?_)
   | (with_reducible refine LeO.bind ?_ (fun _ => ?_))
   | exact ih0 _ _ _
   | exact LeO.none _
   | refine LeO.ite ?_ ?_
   | refine LeO.bind ?_ (fun _ => ?_)
theorem laws_toPegS.mono : ∀ a0 k, LeO (laws_toPegS.f k a0) (laws_toPegS.f (k + 1) a0) := by
 intro a0 k
 have ih0 := laws_toPegS.mono_l k
 unfold laws_toPegS.f
 repeat' first | (with_reducible exact ih0 _ _ _) | (with_reducible exact LeO.refl _) | (with_reducible exact LeO.none _) | (with_reducible refine LeO.ite ?_ ?_) | (with_reducible refine LeO.bind ?_ (fun _ => ?_)) | exact ih0 _ _ _ | exact LeO.none _ | refine LeO.ite ?_ ?_ | refine LeO.bind ?_ (fun _ => ?_)
set_option maxHeartbeats 8000000 in
set_option maxRecDepth 100000 in
theorem laws_toPegS.calls (k : Nat) (A0 : Option Addr) (c0 : Nat) (l0 : List (S_laws_Peg)) (r : List (S_impl_Peg)) (w : World) (hr0 : Kd.C kd_laws_Peg w A0 l0.length l0) (hc0 : l0.length ≤ c0) (h : laws_toPegS.f k l0 = some r) :
  Calls Try.prog 17 #[.slice A0 l0.length c0] w fun e w' => ∃ v0_ : Value, e = .returned (v0_) ∧ Kd.R kd_impl_Peg 26 w' w.heap.size (fun _ => True) v0_ r ∧ Below w.heap.size w w' := by
 have hu57 := Try.underlying57; have hu26 := Try.underlying26; have HR0 := aM hr0; have HC0 := aM hc0; clear hr0 hc0; have HB := aM (Below.refl w.heap.size w)
 unfold laws_toPegS.f at h; have H := h; clear h
 replace H := iN H; obtain ⟨c2, H⟩ := H; have c2b0 := eq_true c2; have c2b1 := dE c2; clear c2; replace H := iN H; obtain ⟨c3, H⟩ := H; have c3b0 := eq_true c3; have c3b1 := dE c3; clear c3; obtain ⟨y104, hy104⟩ : ∃ y_ : List (S_impl_Peg), y_ = (List.replicate ((l0.length : Int) : Int).toNat z_impl_Peg) := ⟨_, rfl⟩; rw [← hy104] at H; have Ny104 := aM hy104; clear hy104; have H' := aM H; clear H
 go_enter Try.func17, Try.ntmps17
 go_wp2_with (first | ((with_reducible refine gate_dst (N := 7) rfl ?_); refine Kd.R_make kd_impl_Peg _ 26 rfl (N := 7) rfl 29 _ _ rfl (l0.length : Int) rfl rfl Try.underlying29 (.agg #[(.int .i64 0), (.int .i64 0)]) 16 info26 rfl (by decide) (by omega) z_impl_Peg (ok := fun _ => True) (okp := fun _ => True) (kd_impl_Peg_mkM _ _ _ z_impl_Peg ) (fun _ hk => hk) trivial (dT aQ) (Nat.le_trans (Nat.mul_le_mul_right _ (dT aQ : (l0.length : Int).toNat ≤ 17592186044416)) (by omega)) (Below.refl _ _) (Nat.le_refl _) ?_; intro v105 w4 ho5 hb hg_ hnew_; clear hg_ hnew_; (first | rw [← Ny104.out] at ho5 | (simp only [Int.reduceToNat] at ho5; rw [← Ny104.out] at ho5)); have HO106 := aM (Kd.R_lower ho5 (pZ bQ)); replace HB := tB HB hb; clear hb ho5))
 go_loopg [4] k (fun kq v4 w' => ∃ (x3_1 : List (S_impl_Peg)) (x4_1 : Int), v4 = .int .i64 x4_1 ∧ Aside0 (laws_toPegS.l0 kq l0 x3_1 x4_1 = some r) ∧ Aside0 (kq ≤ k) ∧ Aside0 (Kd.R kd_impl_Peg 26 w' w.heap.size (fun _ => True) v105 x3_1) ∧ Aside0 (Below w.heap.size w w'))
 case atStart => exact ⟨(y104), (0), eQ, H', ⟨Nat.le_refl _⟩, ⟨by (with_reducible repeat (first | apply rA | apply rN | apply rD)); exact HO106.out⟩, ⟨bQ⟩⟩
 case round =>
  clear H'; (try clear c2); (try clear c2b0); (try clear c2b1); (try clear c3); (try clear c3b0); (try clear c3b1); obtain ⟨x3_1, x4_1, rfl, HA, HK1, HO_3, HB⟩ := hrel
  cases gk with
  | zero => exact absurd HA.out (by simp [laws_toPegS.l0])
  | succ k1 =>
   have H := HA.out; clear HA
   simp only [laws_toPegS.l0] at H
   by_cases c6 : x4_1 < (l0.length : Int)
   ·rw [if_pos c6] at H; have c6b0 := dE c6; clear c6; replace H := iD H; obtain ⟨c7b0, H⟩ := H; replace H := bS H; obtain ⟨⟨t108, t109⟩, A8, H⟩ := H; replace H := iD H; obtain ⟨c9b0, H⟩ := H; obtain ⟨y110, hy110⟩ : ∃ y_ : List (S_impl_Peg), y_ = (x3_1.set (x4_1 : Int).toNat (⟨t108, t109⟩ : S_impl_Peg)) := ⟨_, rfl⟩; rw [← hy110] at H; have Ny110 := aM hy110; clear hy110; have H' := aM H; clear H; have p107 : 0 ≤ (x4_1 : Int) := dT aQ; have q107 : x4_1 < (l0.length : Int) := dT aQ; obtain ⟨ad107, e107, hx107_0, hx107_1⟩ := at_laws_Peg HR0.out x4_1 p107 q107
    cases e107
    replace hx107_0 := hC HB hx107_0; replace hx107_1 := hC HB hx107_1; replace p107 := eq_true p107; replace q107 := eq_true q107
    go_wp2_with (first | ((with_reducible refine gC (f := 45) rfl ?_); refine goesL_ (some 20) rfl rfl Try.func45 kR rfl #[.agg #[.int .i64 ((rd_laws_Peg l0 x4_1).f0), .int .i64 ((rd_laws_Peg l0 x4_1).f1)]] rfl sQ ?_; (with_reducible refine (laws_toPeg.calls ((rd_laws_Peg l0 x4_1).f0) ((rd_laws_Peg l0 x4_1).f1) t108 t109 _ A8.out).mono ?_); rintro e w11 ⟨rfl, hb⟩; refine ⟨_, rfl, ?_⟩; replace HO_3 := aM (Kd.R_below (by (with_reducible repeat (first | apply rA | apply rN | apply rD)); exact HO_3.out) hb); replace HB := tB HB hb; (try clear hb); (try clear hb2); (try clear hk); (try clear hi); have p10 : 0 ≤ (x4_1 : Int) := dT aQ; have q10 : (x4_1 : Int) < ((x3_1.length : Int) : Int) := dT aQ; obtain ⟨go10, co10, eo10, gb10, gl10, cl10, HG10⟩ := Kd.R_form HO_3.out (by omega); (first | cases eo10 | (injection eo10 with ea_ en_ ec_; (first | subst ea_ | (injection ea_ with ea_; subst ea_)); subst ec_; clear en_)); have GB10 := aM gb10; have GG10 := aM HG10; clear gb10 gl10 HG10; obtain ⟨ce10, hcl10, hM10, hcc10, hfr10⟩ := Kd.R_elem HO_3.out z_impl_Peg (x4_1 : Int) p10 q10; obtain rfl := kd_impl_Peg_openM hM10; have hx10_0 : w11.cell? ⟨go10, (x4_1 : Int).toNat * 2, none⟩ = some (.int .i64 ((rd_impl_Peg x3_1 x4_1).f0)) := hcc10 0 _ rfl; have hx10_1 : w11.cell? ⟨go10, (x4_1 : Int).toNat * 2 + 1, none⟩ = some (.int .i64 ((rd_impl_Peg x3_1 x4_1).f1)) := hcc10 1 _ rfl; have hf10_0 : w11.frozen? ⟨go10, (x4_1 : Int).toNat * 2, none⟩ = false := hfr10 0; have hf10_1 : w11.frozen? ⟨go10, (x4_1 : Int).toNat * 2 + 1, none⟩ = false := hfr10 1; clear hcl10 hcc10 hfr10 hM10; replace p10 := eq_true p10; replace q10 := eq_true q10; have HX12 := aM (show Kd.R kd_impl_Peg 26 w11 w.heap.size (fun _ => True) (.slice (some ⟨go10, 0, none⟩) x3_1.length co10) x3_1 from (by (with_reducible repeat (first | apply rA | apply rN | apply rD)); exact HO_3.out)); obtain ⟨ce12, hcl12, hM12, hcc12, hfr12⟩ := Kd.R_elem HX12.out z_impl_Peg (x4_1 : Int) (dT aQ) (by have h_ : (x4_1 : Int) < ((x3_1.length : Int) : Int) := dT aQ; first | exact h_ | (have e_ := (rR HO_3.out).1; omega) | simpa using h_); obtain rfl := kd_impl_Peg_openM hM12; have HP12 := Kd.R_seg HX12.out (x4_1 : Int) (dT aQ) (by have h_ : (x4_1 : Int) < ((x3_1.length : Int) : Int) := dT aQ; first | exact h_ | (have e_ := (rR HO_3.out).1; omega) | simpa using h_) (seg := [.int .i64 t108, .int .i64 t109]) (j := 0) hcl12 hcc12 (show 2 ≤ 2 from by decide) (x' := (⟨t108, t109⟩ : S_impl_Peg)) (kd_impl_Peg_mkM _ _ _ (⟨t108, t109⟩ : S_impl_Peg) ) (fun _ hk => hk); have hx12_0 := hcc12 0 _ rfl; (try simp only [show (kd_impl_Peg).sz = 2 from rfl, Nat.mul_one, Nat.add_zero] at hx12_0); have hf12_0 := hfr12 0; (try simp only [show (kd_impl_Peg).sz = 2 from rfl, Nat.mul_one, Nat.add_zero] at hf12_0); have hx12_1 := hcc12 1 _ rfl; (try simp only [show (kd_impl_Peg).sz = 2 from rfl, Nat.mul_one, Nat.add_zero] at hx12_1); have hf12_1 := hfr12 1; (try simp only [show (kd_impl_Peg).sz = 2 from rfl, Nat.mul_one, Nat.add_zero] at hf12_1); clear hcl12 hcc12 hfr12 hM12) | ((with_reducible refine gate_store (t := 26) (p := 21) rfl ?_); refine store_event (t := 26) (p := 21) (v := ?vo_w13) (w1 := ((w11.setCell ⟨go10, (x4_1 : Int).toNat * 2, none⟩ (.int .i64 t108)).setCell ⟨go10, (x4_1 : Int).toNat * 2 + 1, none⟩ (.int .i64 t109))) ?hg ?ho ?hn ?hr ?_; (case ho => rfl); (case hg => rfl); (case hn => rfl); (case hr => first | (go_simp; done) | (go_simp; rfl)); intro w13 hw; have hg : w11.grownBy w13 (some go10) := (by rw [hw]; exact HP12.2); have hp_ : Kd.R kd_impl_Peg 26 w13 w.heap.size (fun _ => True) (.slice (some ⟨go10, 0, none⟩) x3_1.length co10) y110 := (by rw [hw, Ny110.out]; exact HP12.1); clear HP12; replace HO_3 := aM (hp_); replace HB := aM ((by rw [hw]; exact pS (pS (HB.out) GB10.out) GB10.out : Below w.heap.size w w13)); clear hg hw hp_))
    go_roundg k1
    case measure => have := HK1.out; omega
    case rel => exact ⟨(y110), (wrap64 (x4_1 + 1)), eQ, H', ⟨by have := HK1.out; omega⟩, ⟨by (with_reducible repeat (first | apply rA | apply rN | apply rD)); exact HO_3.out⟩, ⟨bQ⟩⟩
   ·rw [if_neg c6] at H; have c6b0 := decide_eq_false c6; clear c6; obtain rfl := Option.some.inj H; go_wp2
    go_ret
    exact ⟨_, by first | rfl | (simp [errW_none, errW_some] <;> rfl) | (simp [*, errW_none, errW_some] <;> rfl), by (with_reducible repeat (first | apply rA | apply rN | apply rD)); exact HO_3.out, bQ⟩
def laws_eqPeg.f (a0_0 : Int) (a0_1 : Int) (a1_0 : Int) (a1_1 : Int) : Option (Bool) := if a0_0 = a1_0 then (if a0_1 = a1_1 then (some true) else (some false)) else (some false)
set_option maxHeartbeats 8000000 in
set_option maxRecDepth 100000 in
theorem laws_eqPeg.calls (a0_0 : Int) (a0_1 : Int) (a1_0 : Int) (a1_1 : Int) (r : Bool) (w : World) (h : laws_eqPeg.f a0_0 a0_1 a1_0 a1_1 = some r) :
  Calls Try.prog 20 #[.agg #[.int .i64 a0_0, .int .i64 a0_1], .agg #[.int .i64 a1_0, .int .i64 a1_1]] w fun e w' => e = .returned (.bool r) ∧ Below w.heap.size w w' := by
 have hu26 := Try.underlying26; have HB := aM (Below.refl w.heap.size w)
 unfold laws_eqPeg.f at h; have H := h; clear h
 by_cases c3 : a0_0 = a1_0
 ·rw [if_pos c3] at H; have c3b0 : (a0_0 == a1_0) = true := beq_iff_eq.mpr c3; have c3b1 : (a0_0 != a1_0) = false := bne_eq_false_iff_eq.mpr c3; clear c3
  by_cases c4 : a0_1 = a1_1
  ·rw [if_pos c4] at H; have c4b0 : (a0_1 == a1_1) = true := beq_iff_eq.mpr c4; have c4b1 : (a0_1 != a1_1) = false := bne_eq_false_iff_eq.mpr c4; clear c4; obtain rfl := Option.some.inj H
   go_enter Try.func20, Try.ntmps20
   go_wp2_with (first | ((with_reducible refine gate_dst (N := 2) rfl ?_); refine bV 2 (cs := #[.int .i64 a0_0, .int .i64 a0_1]) (t := 26) rfl rfl (by first | (go_simp; done) | (go_simp; rfl)) ?_; intro gb111 hg w5 hbox hb; have BK111 := hbox; have GW111 := gZ HB hg; have GE111 := gZ HB hg; replace HB := tB HB hb; clear hb hbox hg) | ((with_reducible refine gate_dst (N := 3) rfl ?_); refine bV 3 (cs := #[.int .i64 a1_0, .int .i64 a1_1]) (t := 26) rfl rfl (by first | (go_simp; done) | (go_simp; rfl)) ?_; intro gb112 hg w6 hbox hb; have BK112 := hbox; have GW112 := gZ HB hg; have GE112 := gZ HB hg; have NB111_112 := nG BK111 hg; have NB112_111 := nH BK111 hg; replace BK111 := bB BK111 hb; replace HB := tB HB hb; clear hb hbox hg; have hnb7 := NB111_112.out; have hnc7 := NB112_111.out; have hcz8_0 := vZ0 BK111; have hcz8_1 := vZ1 BK111; have hfz8_0 := kF BK111.out 0; have hfz8_1 := kF BK111.out 1; have hcz9_0 := vZ0 BK112; have hcz9_1 := vZ1 BK112; have hfz9_0 := kF BK112.out 0; have hfz9_1 := kF BK112.out 1))
   go_ret
   exact ⟨wQ, bE⟩
  ·rw [if_neg c4] at H; have c4b0 : (a0_1 == a1_1) = false := beq_eq_false_iff_ne.mpr c4; have c4b1 : (a0_1 != a1_1) = true := bne_iff_ne.mpr c4; obtain rfl := Option.some.inj H
   go_enter Try.func20, Try.ntmps20
   go_wp2_with (first | ((with_reducible refine gate_dst (N := 2) rfl ?_); refine bV 2 (cs := #[.int .i64 a0_0, .int .i64 a0_1]) (t := 26) rfl rfl (by first | (go_simp; done) | (go_simp; rfl)) ?_; intro gb111 hg w10 hbox hb; have BK111 := hbox; have GW111 := gZ HB hg; have GE111 := gZ HB hg; replace HB := tB HB hb; clear hb hbox hg) | ((with_reducible refine gate_dst (N := 3) rfl ?_); refine bV 3 (cs := #[.int .i64 a1_0, .int .i64 a1_1]) (t := 26) rfl rfl (by first | (go_simp; done) | (go_simp; rfl)) ?_; intro gb112 hg w11 hbox hb; have BK112 := hbox; have GW112 := gZ HB hg; have GE112 := gZ HB hg; have NB111_112 := nG BK111 hg; have NB112_111 := nH BK111 hg; replace BK111 := bB BK111 hb; replace HB := tB HB hb; clear hb hbox hg; have hnb12 := NB111_112.out; have hnc12 := NB112_111.out; have hcz13_0 := vZ0 BK111; have hcz13_1 := vZ1 BK111; have hfz13_0 := kF BK111.out 0; have hfz13_1 := kF BK111.out 1; have hcz14_0 := vZ0 BK112; have hcz14_1 := vZ1 BK112; have hfz14_0 := kF BK112.out 0; have hfz14_1 := kF BK112.out 1))
   go_ret
   exact ⟨wQ, bE⟩
 ·rw [if_neg c3] at H; have c3b0 : (a0_0 == a1_0) = false := beq_eq_false_iff_ne.mpr c3; have c3b1 : (a0_0 != a1_0) = true := bne_iff_ne.mpr c3; obtain rfl := Option.some.inj H
  go_enter Try.func20, Try.ntmps20
  go_wp2_with (first | ((with_reducible refine gate_dst (N := 2) rfl ?_); refine bV 2 (cs := #[.int .i64 a0_0, .int .i64 a0_1]) (t := 26) rfl rfl (by first | (go_simp; done) | (go_simp; rfl)) ?_; intro gb111 hg w15 hbox hb; have BK111 := hbox; have GW111 := gZ HB hg; have GE111 := gZ HB hg; replace HB := tB HB hb; clear hb hbox hg) | ((with_reducible refine gate_dst (N := 3) rfl ?_); refine bV 3 (cs := #[.int .i64 a1_0, .int .i64 a1_1]) (t := 26) rfl rfl (by first | (go_simp; done) | (go_simp; rfl)) ?_; intro gb112 hg w16 hbox hb; have BK112 := hbox; have GW112 := gZ HB hg; have GE112 := gZ HB hg; have NB111_112 := nG BK111 hg; have NB112_111 := nH BK111 hg; replace BK111 := bB BK111 hb; replace HB := tB HB hb; clear hb hbox hg; have hnb17 := NB111_112.out; have hnc17 := NB112_111.out; have hcz18_0 := vZ0 BK111; have hcz18_1 := vZ1 BK111; have hfz18_0 := kF BK111.out 0; have hfz18_1 := kF BK111.out 1; have hcz19_0 := vZ0 BK112; have hcz19_1 := vZ1 BK112; have hfz19_0 := kF BK112.out 0; have hfz19_1 := kF BK112.out 1))
  go_ret
  exact ⟨wQ, bE⟩

def laws_eqPegS.l0 : Nat → List (S_impl_Peg) → List (S_impl_Peg) → Int → Option (Bool)
 | 0, _, _, _ => none
 | k + 1, x0, x1, x5 => if x5 < (x0.length : Int) then (if 0 ≤ x5 then (if x5 < (x1.length : Int) then ((laws_eqPeg.f ((rd_impl_Peg x0 x5).f0) ((rd_impl_Peg x0 x5).f1) ((rd_impl_Peg x1 x5).f0) ((rd_impl_Peg x1 x5).f1)).bind fun t115 => (if t115 = true then (laws_eqPegS.l0 k x0 x1 (wrap64 (x5 + 1))) else (some false))) else (none)) else (none)) else (some true)
def laws_eqPegS.f (k : Nat) (l0 : List (S_impl_Peg)) (l1 : List (S_impl_Peg)) : Option (Bool) := if (l0.length : Int) = (l1.length : Int) then (laws_eqPegS.l0 k l0 l1 0) else (some false)
theorem laws_eqPegS.mono_l : ∀ k, (∀ y0 y1 y2, LeO (laws_eqPegS.l0 k y0 y1 y2) (laws_eqPegS.l0 (k + 1) y0 y1 y2))
 | 0 => fun _ _ _ r h => by simp [laws_eqPegS.l0] at h
 | k + 1 => by
  have ih0 := laws_eqPegS.mono_l k
  ·intro y0 y1 y2
   unfold laws_eqPegS.l0
   repeat' first
   | (with_reducible exact ih0 _ _ _)
   | (with_reducible exact LeO.refl _)
   | (with_reducible exact LeO.none _)
   | (with_reducible refine LeO.ite ?_ ?_)
   | (with_reducible refine LeO.bind ?_ (fun _ => ?_))
   | exact ih0 _ _ _
   | exact LeO.none _
   | refine LeO.ite ?_ ?_
   | refine LeO.bind ?_ (fun _ => ?_)
theorem laws_eqPegS.mono : ∀ a0 a1 k, LeO (laws_eqPegS.f k a0 a1) (laws_eqPegS.f (k + 1) a0 a1) := by
 intro a0 a1 k
 have ih0 := laws_eqPegS.mono_l k
 unfold laws_eqPegS.f
 repeat' first | (with_reducible exact ih0 _ _ _) | (with_reducible exact LeO.refl _) | (with_reducible exact LeO.none _) | (with_reducible refine LeO.ite ?_ ?_) | (with_reducible refine LeO.bind ?_ (fun _ => ?_)) | exact ih0 _ _ _ | exact LeO.none _ | refine LeO.ite ?_ ?_ | refine LeO.bind ?_ (fun _ => ?_)
def laws_eqPegS.T6 : Bool × List (List Nat × List Nat) := (true, [([], []), ([], []), ([0, 1], [0, 1]), ([2], [2]), ([], []), ([], []), ([4, 5], [4, 5]), ([6], [6]), ([3, 7], [3, 7]), ([8], [8])])
def laws_eqPegS.B6 : List Nat := [0, 0, 3, 7, 0, 0, 48, 112, 255, 511]
theorem laws_eqPegS.tab6 : rtab .any (opsOf Try.f21 6) = laws_eqPegS.T6 := by kernel_rfl
theorem laws_eqPegS.bits6 : waitsOk laws_eqPegS.T6.2 laws_eqPegS.B6 = true := by kernel_rfl
set_option maxHeartbeats 8000000 in
set_option maxRecDepth 100000 in
theorem laws_eqPegS.calls (k : Nat) (A0 : Option Addr) (c0 : Nat) (l0 : List (S_impl_Peg)) (A1 : Option Addr) (c1 : Nat) (l1 : List (S_impl_Peg)) (r : Bool) (w : World) (hr0 : Kd.C kd_impl_Peg w A0 l0.length l0) (hc0 : l0.length ≤ c0) (hr1 : Kd.C kd_impl_Peg w A1 l1.length l1) (hc1 : l1.length ≤ c1) (h : laws_eqPegS.f k l0 l1 = some r) :
  Calls Try.prog 21 #[.slice A0 l0.length c0, .slice A1 l1.length c1] w fun e w' => e = .returned (.bool r) ∧ Below w.heap.size w w' := by
 have hu26 := Try.underlying26; have HR0 := aM hr0; have HC0 := aM hc0; clear hr0 hc0; have HR1 := aM hr1; have HC1 := aM hc1; clear hr1 hc1; have HB := aM (Below.refl w.heap.size w)
 unfold laws_eqPegS.f at h; have H := h; clear h
 by_cases c3 : (l0.length : Int) = (l1.length : Int)
 ·rw [if_pos c3] at H; have c3b0 : ((l0.length : Int) == (l1.length : Int)) = true := beq_iff_eq.mpr c3; have c3b1 : ((l0.length : Int) != (l1.length : Int)) = false := bne_eq_false_iff_eq.mpr c3; have c3b2 : (l0.length == l1.length) = true := by first | simpa using c3 | (simp at c3 ⊢; omega)
  clear c3; have H' := aM H; clear H
  go_enter Try.func21, Try.ntmps21
  go_wp2
  go_loopg [5] k (fun kq v5 w' => ∃ (x5_1 : Int), v5 = .int .i64 x5_1 ∧ Aside0 (laws_eqPegS.l0 kq l0 l1 x5_1 = some r) ∧ Aside0 (kq ≤ k) ∧ Aside0 (Below w.heap.size w w'))
  case atStart => exact ⟨(0), eQ, H', ⟨Nat.le_refl _⟩, ⟨bQ⟩⟩
  case round =>
   clear H'; (try clear c1); (try clear c3); (try clear c3b0); (try clear c3b1); (try clear c3b2); obtain ⟨x5_1, rfl, HA, HK1, HB⟩ := hrel
   cases gk with
   | zero => exact absurd HA.out (by simp [laws_eqPegS.l0])
   | succ k1 =>
    have H := HA.out; clear HA
    simp only [laws_eqPegS.l0] at H
    by_cases c4 : x5_1 < (l0.length : Int)
    ·rw [if_pos c4] at H; have c4b0 := dE c4; clear c4; replace H := iD H; obtain ⟨c5b0, H⟩ := H; replace H := iD H; obtain ⟨c6b0, H⟩ := H; replace H := bS H; obtain ⟨t115, A7, H⟩ := H
     by_cases c8 : t115 = true
     ·subst c8; replace H := iT H; have H' := aM H; clear H
      try go_wp2
      replace HB := aM (pD HB.out); have p113 : 0 ≤ (x5_1 : Int) := dT aQ; have q113 : x5_1 < (l0.length : Int) := dT aQ; obtain ⟨ad113, e113, hx113_0, hx113_1⟩ := at_impl_Peg HR0.out x5_1 p113 q113; have hw113_1 := hx113_1; have hw113_0 := hx113_0
      cases e113
      replace hx113_0 := hC HB hx113_0; replace hx113_1 := hC HB hx113_1; replace p113 := eq_true p113; replace q113 := eq_true q113; have p114 : 0 ≤ (x5_1 : Int) := dT aQ; have q114 : x5_1 < (l1.length : Int) := dT aQ; obtain ⟨ad114, e114, hx114_0, hx114_1⟩ := at_impl_Peg HR1.out x5_1 p114 q114; have hw114_1 := hx114_1; have hw114_0 := hx114_0
      cases e114
      replace hx114_0 := hC HB hx114_0; replace hx114_1 := hC HB hx114_1; replace p114 := eq_true p114; replace q114 := eq_true q114
      refine start_ (n := 10) (S := fun w' => w'.cell? (ad113.add ((x5_1).toNat * 2)) = some (.int .i64 ((rd_impl_Peg l0 x5_1).f0)) ∧ w'.cell? ⟨(ad113.add ((x5_1).toNat * 2)).block, (ad113.add ((x5_1).toNat * 2)).off + 1, none⟩ = some (.int .i64 ((rd_impl_Peg l0 x5_1).f1)) ∧ w'.cell? (ad114.add ((x5_1).toNat * 2)) = some (.int .i64 ((rd_impl_Peg l1 x5_1).f0)) ∧ w'.cell? ⟨(ad114.add ((x5_1).toNat * 2)).block, (ad114.add ((x5_1).toNat * 2)).off + 1, none⟩ = some (.int .i64 ((rd_impl_Peg l1 x5_1).f1))) (ds := []) (bA 10 0) kR rfl kR ⟨(hC HB hw113_0 :), (hC HB hw113_1 :), (hC HB hw114_0 :), (hC HB hw114_1 :)⟩ (fun hHeld => ?_); refine with_tabW laws_eqPegS.tab6 laws_eqPegS.bits6 (fun HT_ HW_ => ?_)
      generalize wr.drew = w9 at HB hx113_0 hx113_1 hx114_0 hx114_1 hHeld ⊢
      refine pU 0 17 (bA 10 1) HT_ ?_; refine pU 1 18 (bA 10 3) HT_ ?_; refine pU 2 19 (bA 10 7) HT_ ?_; refine pU 4 21 (bA 10 23) HT_ ?_; refine pU 5 22 (bA 10 55) HT_ ?_; refine pU 6 23 (bA 10 119) HT_ ?_
      refine tU 3 20 (bA 10 127) HT_ HW_ hHeld ?_ (hy := Or.inl ⟨by rfl, by rintro w' ⟨s0, s1, s2, s3⟩; go_simp; with_reducible rfl⟩)
      refine tU 7 24 (bA 10 255) HT_ HW_ hHeld ?_ (hy := Or.inl ⟨by rfl, by rintro w' ⟨s0, s1, s2, s3⟩; go_simp; with_reducible rfl⟩)
      refine oU 8 25 (bA 10 511) HT_ (fun K hK => ?_)
      refine goes_ Try.func20 kR rfl #[.agg #[.int .i64 ((rd_impl_Peg l0 x5_1).f0), .int .i64 ((rd_impl_Peg l0 x5_1).f1)], .agg #[.int .i64 ((rd_impl_Peg l1 x5_1).f0), .int .i64 ((rd_impl_Peg l1 x5_1).f1)]] (by rfl) rfl rfl sQ ?_
      with_reducible refine (laws_eqPeg.calls ((rd_impl_Peg l0 x5_1).f0) ((rd_impl_Peg l0 x5_1).f1) ((rd_impl_Peg l1 x5_1).f0) ((rd_impl_Peg l1 x5_1).f1) true _ A7.out).mono ?_
      rintro e w10 ⟨rfl, hb⟩; refine ⟨_, rfl, ?_⟩; replace HB := tB HB hb; (try clear hb); (try clear hb2); (try clear hk); (try clear hi)
      refine hK.out _ _ ⟨(hC HB hw113_0 :), (hC HB hw113_1 :), (hC HB hw114_0 :), (hC HB hw114_1 :)⟩ (fun hHeld => ?_)
      clear hK K
      refine nU ?_
      refine pU 9 26 (bA 10 1023) HT_ ?_
      refine done_ (done_of HT_.out kR) ?_
      try go_wp2
      go_roundg k1
      case measure => have := HK1.out; omega
      case rel => exact ⟨(wrap64 (x5_1 + 1)), eQ, H', ⟨by have := HK1.out; omega⟩, ⟨bQ⟩⟩
     ·replace c8 := Bool.eq_false_iff.mpr c8; subst c8; replace H := iF H; obtain rfl := Option.some.inj H
      try go_wp2
      replace HB := aM (pD HB.out); have p113 : 0 ≤ (x5_1 : Int) := dT aQ; have q113 : x5_1 < (l0.length : Int) := dT aQ; obtain ⟨ad113, e113, hx113_0, hx113_1⟩ := at_impl_Peg HR0.out x5_1 p113 q113; have hw113_1 := hx113_1; have hw113_0 := hx113_0
      cases e113
      replace hx113_0 := hC HB hx113_0; replace hx113_1 := hC HB hx113_1; replace p113 := eq_true p113; replace q113 := eq_true q113; have p114 : 0 ≤ (x5_1 : Int) := dT aQ; have q114 : x5_1 < (l1.length : Int) := dT aQ; obtain ⟨ad114, e114, hx114_0, hx114_1⟩ := at_impl_Peg HR1.out x5_1 p114 q114; have hw114_1 := hx114_1; have hw114_0 := hx114_0
      cases e114
      replace hx114_0 := hC HB hx114_0; replace hx114_1 := hC HB hx114_1; replace p114 := eq_true p114; replace q114 := eq_true q114
      refine start_ (n := 10) (S := fun w' => w'.cell? (ad113.add ((x5_1).toNat * 2)) = some (.int .i64 ((rd_impl_Peg l0 x5_1).f0)) ∧ w'.cell? ⟨(ad113.add ((x5_1).toNat * 2)).block, (ad113.add ((x5_1).toNat * 2)).off + 1, none⟩ = some (.int .i64 ((rd_impl_Peg l0 x5_1).f1)) ∧ w'.cell? (ad114.add ((x5_1).toNat * 2)) = some (.int .i64 ((rd_impl_Peg l1 x5_1).f0)) ∧ w'.cell? ⟨(ad114.add ((x5_1).toNat * 2)).block, (ad114.add ((x5_1).toNat * 2)).off + 1, none⟩ = some (.int .i64 ((rd_impl_Peg l1 x5_1).f1))) (ds := []) (bA 10 0) kR rfl kR ⟨(hC HB hw113_0 :), (hC HB hw113_1 :), (hC HB hw114_0 :), (hC HB hw114_1 :)⟩ (fun hHeld => ?_); refine with_tabW laws_eqPegS.tab6 laws_eqPegS.bits6 (fun HT_ HW_ => ?_)
      generalize wr.drew = w11 at HB hx113_0 hx113_1 hx114_0 hx114_1 hHeld ⊢
      refine pU 0 17 (bA 10 1) HT_ ?_; refine pU 1 18 (bA 10 3) HT_ ?_; refine pU 2 19 (bA 10 7) HT_ ?_; refine pU 4 21 (bA 10 23) HT_ ?_; refine pU 5 22 (bA 10 55) HT_ ?_; refine pU 6 23 (bA 10 119) HT_ ?_
      refine tU 3 20 (bA 10 127) HT_ HW_ hHeld ?_ (hy := Or.inl ⟨by rfl, by rintro w' ⟨s0, s1, s2, s3⟩; go_simp; with_reducible rfl⟩)
      refine tU 7 24 (bA 10 255) HT_ HW_ hHeld ?_ (hy := Or.inl ⟨by rfl, by rintro w' ⟨s0, s1, s2, s3⟩; go_simp; with_reducible rfl⟩)
      refine oU 8 25 (bA 10 511) HT_ (fun K hK => ?_)
      refine goes_ Try.func20 kR rfl #[.agg #[.int .i64 ((rd_impl_Peg l0 x5_1).f0), .int .i64 ((rd_impl_Peg l0 x5_1).f1)], .agg #[.int .i64 ((rd_impl_Peg l1 x5_1).f0), .int .i64 ((rd_impl_Peg l1 x5_1).f1)]] (by rfl) rfl rfl sQ ?_
      with_reducible refine (laws_eqPeg.calls ((rd_impl_Peg l0 x5_1).f0) ((rd_impl_Peg l0 x5_1).f1) ((rd_impl_Peg l1 x5_1).f0) ((rd_impl_Peg l1 x5_1).f1) false _ A7.out).mono ?_
      rintro e w12 ⟨rfl, hb⟩; refine ⟨_, rfl, ?_⟩; replace HB := tB HB hb; (try clear hb); (try clear hb2); (try clear hk); (try clear hi)
      refine hK.out _ _ ⟨(hC HB hw113_0 :), (hC HB hw113_1 :), (hC HB hw114_0 :), (hC HB hw114_1 :)⟩ (fun hHeld => ?_)
      clear hK K
      refine nU ?_
      refine pU 9 26 (bA 10 1023) HT_ ?_
      refine done_ (done_of HT_.out kR) ?_
      try go_wp2
      go_ret
      exact ⟨wQ, bQ⟩
    ·rw [if_neg c4] at H; have c4b0 := decide_eq_false c4; clear c4; obtain rfl := Option.some.inj H; go_wp2
     go_ret
     exact ⟨wQ, bQ⟩
 ·rw [if_neg c3] at H; have c3b0 : ((l0.length : Int) == (l1.length : Int)) = false := beq_eq_false_iff_ne.mpr c3; have c3b1 : ((l0.length : Int) != (l1.length : Int)) = true := bne_iff_ne.mpr c3; have c3b2 : (l0.length == l1.length) = false := by first | simpa using c3 | (simp at c3 ⊢; omega)
  obtain rfl := Option.some.inj H
  go_enter Try.func21, Try.ntmps21
  go_wp2
  go_ret
  exact ⟨wQ, bQ⟩

def spec_l1In.f (a0 : Int) (a1 : Int) (a2 : Int) : Option (Bool) := if a0 ≥ a1 then (some (decide (a0 ≤ a2))) else (some false)
set_option maxHeartbeats 8000000 in
set_option maxRecDepth 100000 in
theorem spec_l1In.calls (a0 : Int) (a1 : Int) (a2 : Int) (r : Bool) (w : World) (h : spec_l1In.f a0 a1 a2 = some r) :
  Calls Try.prog 79 #[.int .i64 a0, .int .i64 a1, .int .i64 a2] w fun e w' => e = .returned (.bool r) ∧ Drawn0 w w' := by
 unfold spec_l1In.f at h; have H := h; clear h
 by_cases c4 : a0 ≥ a1
 ·rw [if_pos c4] at H; have c4b0 := dE c4; clear c4; obtain rfl := Option.some.inj H
  go_enter Try.func79, Try.ntmps79
  go_wp2
  go_ret
  exact ⟨eQ, dQ⟩
 ·rw [if_neg c4] at H; have c4b0 := decide_eq_false c4; clear c4; obtain rfl := Option.some.inj H
  go_enter Try.func79, Try.ntmps79
  go_wp2
  go_ret
  exact ⟨eQ, dQ⟩

def spec_pgIs.f (a0_0 : Int) (a0_1 : Int) : Option (Bool) := (spec_l1In.f a0_0 (-40) 40).bind fun t117 => (if t117 = true then ((spec_l1In.f a0_1 (-40) 40).bind fun t118 => (some t118)) else (some false))
set_option maxHeartbeats 8000000 in
set_option maxRecDepth 100000 in
theorem spec_pgIs.calls (a0_0 : Int) (a0_1 : Int) (r : Bool) (w : World) (h : spec_pgIs.f a0_0 a0_1 = some r) :
  Calls Try.prog 57 #[.agg #[.int .i64 a0_0, .int .i64 a0_1]] w fun e w' => e = .returned (.bool r) ∧ Below w.heap.size w w' := by
 have hu26 := Try.underlying26; have HB := aM (Below.refl w.heap.size w)
 unfold spec_pgIs.f at h; have H := h; clear h
 replace H := bS H; obtain ⟨t117, A2, H⟩ := H
 by_cases c3 : t117 = true
 ·subst c3; replace H := iT H; replace H := bS H; obtain ⟨t118, A4, H⟩ := H; obtain rfl := Option.some.inj H
  go_enter Try.func57, Try.ntmps57
  go_wp2_with (first | ((with_reducible refine gate_dst (N := 1) rfl ?_); refine bV 1 (cs := #[.int .i64 a0_0, .int .i64 a0_1]) (t := 26) rfl rfl (by first | (go_simp; done) | (go_simp; rfl)) ?_; intro gb116 hg w5 hbox hb; have BK116 := hbox; have GW116 := gZ HB hg; have GE116 := gZ HB hg; replace HB := tB HB hb; clear hb hbox hg; have hcz6_0 := vZ0 BK116; have hcz6_1 := vZ1 BK116; have hfz6_0 := kF BK116.out 0; have hfz6_1 := kF BK116.out 1) | ((with_reducible refine gC (f := 79) rfl ?_); refine goesL_ (some 5) rfl rfl Try.func79 kR rfl #[.int .i64 a0_0, .int .i64 (-40), .int .i64 40] rfl sQ ?_; (with_reducible refine (spec_l1In.calls a0_0 (-40) 40 true _ A2.out).mono ?_); rintro e w' ⟨rfl, ⟨nd, rfl⟩⟩; refine ⟨_, rfl, ?_⟩) | (go_at_call 79; (with_reducible refine (spec_l1In.calls a0_1 (-40) 40 t118 _ A4.out).mono ?_); rintro e w' ⟨rfl, ⟨nd, rfl⟩⟩))
  go_ret
  exact ⟨wQ, bE⟩
 ·replace c3 := Bool.eq_false_iff.mpr c3; subst c3; replace H := iF H; obtain rfl := Option.some.inj H
  go_enter Try.func57, Try.ntmps57
  go_wp2_with (first | ((with_reducible refine gate_dst (N := 1) rfl ?_); refine bV 1 (cs := #[.int .i64 a0_0, .int .i64 a0_1]) (t := 26) rfl rfl (by first | (go_simp; done) | (go_simp; rfl)) ?_; intro gb116 hg w7 hbox hb; have BK116 := hbox; have GW116 := gZ HB hg; have GE116 := gZ HB hg; replace HB := tB HB hb; clear hb hbox hg; have hcz8_0 := vZ0 BK116; have hcz8_1 := vZ1 BK116; have hfz8_0 := kF BK116.out 0; have hfz8_1 := kF BK116.out 1) | ((with_reducible refine gC (f := 79) rfl ?_); refine goesL_ (some 5) rfl rfl Try.func79 kR rfl #[.int .i64 a0_0, .int .i64 (-40), .int .i64 40] rfl sQ ?_; (with_reducible refine (spec_l1In.calls a0_0 (-40) 40 false _ A2.out).mono ?_); rintro e w' ⟨rfl, ⟨nd, rfl⟩⟩; refine ⟨_, rfl, ?_⟩))
  go_ret
  exact ⟨wQ, bE⟩

def spec_pgTurn.f (a0_0 : Int) (a0_1 : Int) (a1_0 : Int) (a1_1 : Int) (a2_0 : Int) (a2_1 : Int) : Option (Int) := some (wrap64 ((wrap64 ((wrap64 (a1_0 - a0_0)) * (wrap64 (a2_1 - a0_1)))) - (wrap64 ((wrap64 (a1_1 - a0_1)) * (wrap64 (a2_0 - a0_0))))))
set_option maxHeartbeats 8000000 in
set_option maxRecDepth 100000 in
theorem spec_pgTurn.calls (a0_0 : Int) (a0_1 : Int) (a1_0 : Int) (a1_1 : Int) (a2_0 : Int) (a2_1 : Int) (r : Int) (w : World) (h : spec_pgTurn.f a0_0 a0_1 a1_0 a1_1 a2_0 a2_1 = some r) :
  Calls Try.prog 106 #[.agg #[.int .i64 a0_0, .int .i64 a0_1], .agg #[.int .i64 a1_0, .int .i64 a1_1], .agg #[.int .i64 a2_0, .int .i64 a2_1]] w fun e w' => e = .returned (.int .i64 r) ∧ Below w.heap.size w w' := by
 have hu26 := Try.underlying26; have HB := aM (Below.refl w.heap.size w)
 unfold spec_pgTurn.f at h; have H := h; clear h
 obtain rfl := Option.some.inj H
 go_enter Try.func106, Try.ntmps106
 go_wp2_with (first | ((with_reducible refine gate_dst (N := 3) rfl ?_); refine bV 3 (cs := #[.int .i64 a0_0, .int .i64 a0_1]) (t := 26) rfl rfl (by first | (go_simp; done) | (go_simp; rfl)) ?_; intro gb119 hg w4 hbox hb; have BK119 := hbox; have GW119 := gZ HB hg; have GE119 := gZ HB hg; replace HB := tB HB hb; clear hb hbox hg) | ((with_reducible refine gate_dst (N := 4) rfl ?_); refine bV 4 (cs := #[.int .i64 a1_0, .int .i64 a1_1]) (t := 26) rfl rfl (by first | (go_simp; done) | (go_simp; rfl)) ?_; intro gb120 hg w5 hbox hb; have BK120 := hbox; have GW120 := gZ HB hg; have GE120 := gZ HB hg; have NB119_120 := nG BK119 hg; have NB120_119 := nH BK119 hg; replace BK119 := bB BK119 hb; replace HB := tB HB hb; clear hb hbox hg) | ((with_reducible refine gate_dst (N := 5) rfl ?_); refine bV 5 (cs := #[.int .i64 a2_0, .int .i64 a2_1]) (t := 26) rfl rfl (by first | (go_simp; done) | (go_simp; rfl)) ?_; intro gb121 hg w6 hbox hb; have BK121 := hbox; have GW121 := gZ HB hg; have GE121 := gZ HB hg; have NB119_121 := nG BK119 hg; have NB121_119 := nH BK119 hg; have NB120_121 := nG BK120 hg; have NB121_120 := nH BK120 hg; replace BK119 := bB BK119 hb; replace BK120 := bB BK120 hb; replace HB := tB HB hb; clear hb hbox hg; have hnb7 := NB120_119.out; have hnc7 := NB119_120.out; have hnb8 := NB120_121.out; have hnc8 := NB121_120.out; have hcz9_0 := vZ0 BK120; have hcz9_1 := vZ1 BK120; have hfz9_0 := kF BK120.out 0; have hfz9_1 := kF BK120.out 1; have hnb10 := NB119_121.out; have hnc10 := NB121_119.out; have hcz11_0 := vZ0 BK119; have hcz11_1 := vZ1 BK119; have hfz11_0 := kF BK119.out 0; have hfz11_1 := kF BK119.out 1; have hcz12_0 := vZ0 BK121; have hcz12_1 := vZ1 BK121; have hfz12_0 := kF BK121.out 0; have hfz12_1 := kF BK121.out 1))
 go_ret
 exact ⟨wQ, bE⟩

end Go.Proofs.Ytklhakfmegbobaa.X
