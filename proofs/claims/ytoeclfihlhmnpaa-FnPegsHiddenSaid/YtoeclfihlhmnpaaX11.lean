-- thin
-- short
-- compact
import Derived.Test.YtoeclfihlhmnpaaXA
import Derived.Test.YtoeclfihlhmnpaaX0
import Derived.Test.YtoeclfihlhmnpaaX3
import Derived.Test.YtoeclfihlhmnpaaX4
import Derived.Test.YtoeclfihlhmnpaaX10
namespace Go.Proofs.Ytoeclfihlhmnpaa.X
open Go.RowKit Go.Proofs.Ytoeclfihlhmnpaa.XW Go.Proofs.YtoeclfihlhmnpaaW.PrintWords Go.Proofs.YtoeclfihlhmnpaaW.PrintLast Go.Proofs.YtoeclfihlhmnpaaW.PrintMore
attribute [local go_sem] max2_int min2_int max_two min_two max_three min_three max_four min_four   -- for this text's walks alone
set_option linter.unusedVariables false
set_option linter.unusedSimpArgs false

mutual
def spec_pzGood.j0 : Nat → Bool → Int → List (S_impl_Clue) → Option (Bool)
 | 0, _, _, _ => none
 | k + 1, x14, x267000, x267001 => if x14 = true then (some false) else (spec_pzGood.l0 k x267001 (x267001.length : Int) 0 x267000 x267001)
def spec_pzGood.l0 : Nat → List (S_impl_Clue) → Int → Int → Int → List (S_impl_Clue) → Option (Bool)
 | 0, _, _, _, _, _ => none
 | k + 1, x16, x17, x18, x267000, x267001 => if x18 < x17 then (if 0 ≤ x18 then (if x18 < (x16.length : Int) then ((spec_pzClue.f k x267000 ((rd_impl_Clue x16 x18).f0) ((rd_impl_Clue x16 x18).f1) ((rd_impl_Clue x16 x18).f2) ((rd_impl_Clue x16 x18).f3)).bind fun t270 => (if t270 = true then (spec_pzGood.l0 k x16 x17 (wrap64 (x18 + 1)) x267000 x267001) else (some false))) else (none)) else (none)) else (some true)
end
def spec_pzGood.f (k : Nat) (a0_0 : Int) (l0_1 : List (S_impl_Clue)) : Option (Bool) := (spec_pzSide.f a0_0).bind fun t267 => (if t267 = true then (spec_pzGood.j0 k (decide ((l0_1.length : Int) > 6)) a0_0 l0_1) else (spec_pzGood.j0 k true a0_0 l0_1))
theorem spec_pzGood.mono_l : ∀ k, (∀ y0 y1 y2, LeO (spec_pzGood.j0 k y0 y1 y2) (spec_pzGood.j0 (k + 1) y0 y1 y2)) ∧ (∀ y0 y1 y2 y3 y4, LeO (spec_pzGood.l0 k y0 y1 y2 y3 y4) (spec_pzGood.l0 (k + 1) y0 y1 y2 y3 y4))
 | 0 => ⟨fun _ _ _ r h => by simp [spec_pzGood.j0] at h, fun _ _ _ _ _ r h => by simp [spec_pzGood.l0] at h⟩
 | k + 1 => by
  obtain ⟨ih0, ih1⟩ := spec_pzGood.mono_l k
  refine ⟨?_, ?_⟩ <;> intros <;> (first | unfold spec_pzGood.j0 | unfold spec_pzGood.l0) <;> repeat' first | (with_reducible exact ih0 _ _ _) | (with_reducible exact ih1 _ _ _ _ _) | (with_reducible exact spec_pzClue.mono _ _ _ _ _ _) | (with_reducible exact LeO.refl _) | (with_reducible exact LeO.none _) | (with_reducible refine LeO.ite ?_ ?_) | (with_reducible refine LeO.bind ?_ (fun _ => ?_)) | exact ih0 _ _ _ | exact ih1 _ _ _ _ _ | exact spec_pzClue.mono _ _ _ _ _ _ | exact LeO.none _ | refine LeO.ite ?_ ?_ | refine LeO.bind ?_ (fun _ => ?_)
theorem spec_pzGood.mono : ∀ a0 a1 k, LeO (spec_pzGood.f k a0 a1) (spec_pzGood.f (k + 1) a0 a1) := by
 intro a0 a1 k
 obtain ⟨ih0, ih1⟩ := spec_pzGood.mono_l k
 unfold spec_pzGood.f
 repeat' first | (with_reducible exact ih0 _ _ _) | (with_reducible exact ih1 _ _ _ _ _) | (with_reducible exact spec_pzClue.mono _ _ _ _ _ _) | (with_reducible exact LeO.refl _) | (with_reducible exact LeO.none _) | (with_reducible refine LeO.ite ?_ ?_) | (with_reducible refine LeO.bind ?_ (fun _ => ?_)) | exact ih0 _ _ _ | exact ih1 _ _ _ _ _ | exact spec_pzClue.mono _ _ _ _ _ _ | exact LeO.none _ | refine LeO.ite ?_ ?_ | refine LeO.bind ?_ (fun _ => ?_)
set_option maxHeartbeats 8000000 in
set_option maxRecDepth 100000 in
theorem spec_pzGood.calls (k : Nat) (a0_0 : Int) (A0_1 : Option Addr) (c0_1 : Nat) (l0_1 : List (S_impl_Clue)) (r : Bool) (w : World) (hr0_1 : Kd.C kd_impl_Clue w A0_1 l0_1.length l0_1) (hc0_1 : l0_1.length ≤ c0_1) (h : spec_pzGood.f k a0_0 l0_1 = some r) :
  Calls Try.prog 41 #[.agg #[.int .i64 a0_0, .slice A0_1 l0_1.length c0_1]] w fun e w' => e = .returned (.bool r) ∧ Below w.heap.size w w' := by
 have hu31 := Try.underlying31; have hu48 := Try.underlying48; have HR0_1 := aM hr0_1; have HC0_1 := aM hc0_1; clear hr0_1 hc0_1; have HB := aM (Below.refl w.heap.size w)
 unfold spec_pzGood.f at h; have H := h; clear h
 have HC2 := aM H; clear H
 go_enter Try.func41, Try.ntmps41
 go_upto_region 1 with (first | ((with_reducible refine gate_dst (N := 1) rfl ?_); (try (refine gate_guard (by rfl) ?_; dsimp only)); refine bV 1 (cs := #[.int .i64 a0_0, .slice A0_1 l0_1.length c0_1]) (t := 31) rfl rfl (by first | (go_simp; done) | (go_simp; rfl)) ?_; intro gb266 hg w3 hbox hb; have BK266 := hbox; have GW266 := gZ HB hg; have GE266 := gZ HB hg; replace HB := tB HB hb; clear hb hbox hg))
 (try simp only [Act.put, sI, sZ, sS])
 go_cut [14] (fun v14 wc => ∃ (kq : Nat) (x14_1 : Bool), v14 = .bool x14_1 ∧ Aside0 (spec_pzGood.j0 kq x14_1 a0_0 l0_1 = some r) ∧ Aside0 (kq ≤ k) ∧ Aside0 (wc.heap[gb266]? = some (.cells #[.int .i64 a0_0, (.slice A0_1 l0_1.length c0_1)] 31 (0, 0))) ∧ Aside0 (Below w.heap.size w wc))
 case first =>
  have H := HC2.out; clear HC2; replace H := bS H; obtain ⟨t267, A4, H⟩ := H
  by_cases c5 : t267 = true
  ·subst c5; replace H := iT H; have H' := aM H; clear H; have hcz6_0 := vZ0 BK266; have hcz6_1 := vZ1 BK266; have hfz6_0 := kF BK266.out 0; have hfz6_1 := kF BK266.out 1
   go_wp2_with (first | ((with_reducible refine gC (f := 57) rfl ?_); refine goesL_ (some 7) rfl rfl Try.func57 kR rfl #[.int .i64 a0_0] rfl sQ ?_; (with_reducible refine (spec_pzSide.calls a0_0 true _ A4.out).mono ?_); rintro e w' ⟨rfl, ⟨nd, rfl⟩⟩; refine ⟨_, rfl, ?_⟩))
   go_meet
   case rel => exact ⟨_, (decide ((l0_1.length : Int) > 6)), eQ, H', ⟨by first | omega | exact Nat.le_refl _⟩, ⟨gQ BK266⟩, ⟨bE⟩⟩
  ·replace c5 := Bool.eq_false_iff.mpr c5; subst c5; replace H := iF H; have H' := aM H; clear H; have hcz7_0 := vZ0 BK266; have hcz7_1 := vZ1 BK266; have hfz7_0 := kF BK266.out 0; have hfz7_1 := kF BK266.out 1
   go_wp2_with (first | ((with_reducible refine gC (f := 57) rfl ?_); refine goesL_ (some 7) rfl rfl Try.func57 kR rfl #[.int .i64 a0_0] rfl sQ ?_; (with_reducible refine (spec_pzSide.calls a0_0 false _ A4.out).mono ?_); rintro e w' ⟨rfl, ⟨nd, rfl⟩⟩; refine ⟨_, rfl, ?_⟩))
   go_meet
   case rel => exact ⟨_, (true), eQ, H', ⟨by first | omega | exact Nat.le_refl _⟩, ⟨gQ BK266⟩, ⟨bE⟩⟩
 case rest =>
  clear HC2; obtain ⟨kq, x14_1, rfl, HA, HJ1, BK266, HB⟩ := hcut
  cases kq with
  | zero => exact absurd HA.out (by simp [spec_pzGood.j0])
  | succ kj1 =>
   have H := HA.out; clear HA
   simp only [spec_pzGood.j0] at H
   by_cases c8 : x14_1 = true
   ·subst c8; replace H := iT H; obtain rfl := Option.some.inj H; go_wp2
    go_ret
    exact ⟨wQ, bE⟩
   ·replace c8 := Bool.eq_false_iff.mpr c8; subst c8; replace H := iF H; have H' := aM H; clear H; have hcz9_0 : wc.cell? ⟨gb266, 0, none⟩ = some (.int .i64 a0_0) := vZ0 BK266; have hcz9_1 : wc.cell? ⟨gb266, 1, none⟩ = some (.slice A0_1 l0_1.length c0_1) := vZ1 BK266; have hfz9_0 := kF BK266.out 0; have hfz9_1 := kF BK266.out 1; go_wp2
    go_loopg [18] kj1 (fun kq v18 w' => ∃ (x18_2 : Int), v18 = .int .i64 x18_2 ∧ Aside0 (spec_pzGood.l0 kq l0_1 (l0_1.length : Int) x18_2 a0_0 l0_1 = some r) ∧ Aside0 (kq ≤ kj1) ∧ Aside0 (w'.heap[gb266]? = some (.cells #[.int .i64 a0_0, (.slice A0_1 l0_1.length c0_1)] 31 (0, 0))) ∧ Aside0 (Below w.heap.size w w'))
    case atStart => exact ⟨(0), eQ, H', ⟨Nat.le_refl _⟩, ⟨gQ BK266⟩, ⟨bE⟩⟩
    case round =>
     clear H'; (try clear c8); (try clear hcz9_0); (try clear hcz9_1); (try clear hfz9_0); (try clear hfz9_1); obtain ⟨x18_2, rfl, HA, HK2, BK266, HB⟩ := hrel
     cases gk with
     | zero => exact absurd HA.out (by simp [spec_pzGood.l0])
     | succ k2 =>
      have H := HA.out; clear HA
      simp only [spec_pzGood.l0] at H
      by_cases c10 : x18_2 < (l0_1.length : Int)
      ·rw [if_pos c10] at H; have c10b0 := dE c10; clear c10; replace H := iD H; obtain ⟨c11b0, H⟩ := H; replace H := iD H; obtain ⟨c12b0, H⟩ := H; replace H := bS H; obtain ⟨t270, A13, H⟩ := H
       by_cases c14 : t270 = true
       ·subst c14; replace H := iT H; have H' := aM H; clear H; have p268 : 0 ≤ (x18_2 : Int) := dT aQ; have q268 : x18_2 < (l0_1.length : Int) := dT aQ; obtain ⟨ad268, e268, hx268_0, hx268_1, hx268_2, hx268_3⟩ := at_impl_Clue HR0_1.out x18_2 p268 q268
        cases e268
        replace hx268_0 := hC HB hx268_0; replace hx268_1 := hC HB hx268_1; replace hx268_2 := hC HB hx268_2; replace hx268_3 := hC HB hx268_3; replace p268 := eq_true p268; replace q268 := eq_true q268
        go_wp2_with (first | ((with_reducible refine gate_dst (N := 4) rfl ?_); (try (refine gate_guard (by rfl) ?_; dsimp only)); refine bV 4 (cs := #[.int .i64 0, .int .i64 0, .int .i64 0, .int .i64 0]) (t := 48) rfl rfl (by first | (go_simp; done) | (go_simp; rfl)) ?_; intro gb269 hg w15 hbox hb; have BK269 := hbox; have GW269 := gZ HB hg; have GE269 := gZ HB hg; have NB266_269 := nG BK266 hg; have NB269_266 := nH BK266 hg; replace BK266 := bB BK266 hb; replace HB := tB HB hb; clear hb hbox hg; have hnb16 := NB269_266.out; have hnc16 := NB266_269.out; have hcz17_0 := vZ0 BK269; have hcz17_1 := vZ1 BK269; have hcz17_2 := vZ2 BK269; have hcz17_3 := vZ3 BK269; have hfz17_0 := kF BK269.out 0; have hfz17_1 := kF BK269.out 1; have hfz17_2 := kF BK269.out 2; have hfz17_3 := kF BK269.out 3; have hcz18_0 := vZ0 BK266; have hcz18_1 := vZ1 BK266; have hfz18_0 := kF BK266.out 0; have hfz18_1 := kF BK266.out 1) | ((with_reducible refine gC (f := 75) rfl ?_); refine goesL_ (some 25) rfl rfl Try.func75 kR rfl #[.int .i64 a0_0, .agg #[.int .i64 ((rd_impl_Clue l0_1 x18_2).f0), .int .i64 ((rd_impl_Clue l0_1 x18_2).f1), .int .i64 ((rd_impl_Clue l0_1 x18_2).f2), .int .i64 ((rd_impl_Clue l0_1 x18_2).f3)]] rfl sQ ?_; (with_reducible refine (spec_pzClue.calls k2 a0_0 ((rd_impl_Clue l0_1 x18_2).f0) ((rd_impl_Clue l0_1 x18_2).f1) ((rd_impl_Clue l0_1 x18_2).f2) ((rd_impl_Clue l0_1 x18_2).f3) true _ A13.out).mono ?_); rintro e w19 ⟨rfl, hb⟩; refine ⟨_, rfl, ?_⟩; replace BK266 := aM (blk_below (g := gb266) (o := .cells #[.int .i64 a0_0, .slice (some ad268) l0_1.length c0_1] 31 (0, 0)) (fQ BK266) hb); replace BK269 := aM (blk_below (g := gb269) (o := .cells #[.int .i64 ((rd_impl_Clue l0_1 x18_2).f0), .int .i64 ((rd_impl_Clue l0_1 x18_2).f1), .int .i64 ((rd_impl_Clue l0_1 x18_2).f2), .int .i64 ((rd_impl_Clue l0_1 x18_2).f3)] 48 (0, 0)) (fQ BK269) hb); replace HB := tB HB hb; (try clear hb); (try clear hb2); (try clear hk); (try clear hi)))
        go_roundg k2
        case measure => have := HJ1.out; have := HK2.out; omega
        case rel => exact ⟨(wrap64 (x18_2 + 1)), eQ, H', ⟨by have := HJ1.out; have := HK2.out; omega⟩, ⟨gQ BK266⟩, ⟨bE⟩⟩
       ·replace c14 := Bool.eq_false_iff.mpr c14; subst c14; replace H := iF H; obtain rfl := Option.some.inj H; have p268 : 0 ≤ (x18_2 : Int) := dT aQ; have q268 : x18_2 < (l0_1.length : Int) := dT aQ; obtain ⟨ad268, e268, hx268_0, hx268_1, hx268_2, hx268_3⟩ := at_impl_Clue HR0_1.out x18_2 p268 q268
        cases e268
        replace hx268_0 := hC HB hx268_0; replace hx268_1 := hC HB hx268_1; replace hx268_2 := hC HB hx268_2; replace hx268_3 := hC HB hx268_3; replace p268 := eq_true p268; replace q268 := eq_true q268
        go_wp2_with (first | ((with_reducible refine gate_dst (N := 4) rfl ?_); (try (refine gate_guard (by rfl) ?_; dsimp only)); refine bV 4 (cs := #[.int .i64 0, .int .i64 0, .int .i64 0, .int .i64 0]) (t := 48) rfl rfl (by first | (go_simp; done) | (go_simp; rfl)) ?_; intro gb269 hg w20 hbox hb; have BK269 := hbox; have GW269 := gZ HB hg; have GE269 := gZ HB hg; have NB266_269 := nG BK266 hg; have NB269_266 := nH BK266 hg; replace BK266 := bB BK266 hb; replace HB := tB HB hb; clear hb hbox hg; have hnb21 := NB269_266.out; have hnc21 := NB266_269.out; have hcz22_0 := vZ0 BK269; have hcz22_1 := vZ1 BK269; have hcz22_2 := vZ2 BK269; have hcz22_3 := vZ3 BK269; have hfz22_0 := kF BK269.out 0; have hfz22_1 := kF BK269.out 1; have hfz22_2 := kF BK269.out 2; have hfz22_3 := kF BK269.out 3; have hcz23_0 := vZ0 BK266; have hcz23_1 := vZ1 BK266; have hfz23_0 := kF BK266.out 0; have hfz23_1 := kF BK266.out 1) | ((with_reducible refine gC (f := 75) rfl ?_); refine goesL_ (some 25) rfl rfl Try.func75 kR rfl #[.int .i64 a0_0, .agg #[.int .i64 ((rd_impl_Clue l0_1 x18_2).f0), .int .i64 ((rd_impl_Clue l0_1 x18_2).f1), .int .i64 ((rd_impl_Clue l0_1 x18_2).f2), .int .i64 ((rd_impl_Clue l0_1 x18_2).f3)]] rfl sQ ?_; (with_reducible refine (spec_pzClue.calls k2 a0_0 ((rd_impl_Clue l0_1 x18_2).f0) ((rd_impl_Clue l0_1 x18_2).f1) ((rd_impl_Clue l0_1 x18_2).f2) ((rd_impl_Clue l0_1 x18_2).f3) false _ A13.out).mono ?_); rintro e w24 ⟨rfl, hb⟩; refine ⟨_, rfl, ?_⟩; replace BK266 := aM (blk_below (g := gb266) (o := .cells #[.int .i64 a0_0, .slice (some ad268) l0_1.length c0_1] 31 (0, 0)) (fQ BK266) hb); replace BK269 := aM (blk_below (g := gb269) (o := .cells #[.int .i64 ((rd_impl_Clue l0_1 x18_2).f0), .int .i64 ((rd_impl_Clue l0_1 x18_2).f1), .int .i64 ((rd_impl_Clue l0_1 x18_2).f2), .int .i64 ((rd_impl_Clue l0_1 x18_2).f3)] 48 (0, 0)) (fQ BK269) hb); replace HB := tB HB hb; (try clear hb); (try clear hb2); (try clear hk); (try clear hi)))
        go_ret
        exact ⟨wQ, bE⟩
      ·rw [if_neg c10] at H; have c10b0 := decide_eq_false c10; clear c10; obtain rfl := Option.some.inj H; go_wp2
       go_ret
       exact ⟨wQ, bE⟩

def spec_pzFits.f (k : Nat) (a0_0 : Int) (a0_1 : Int) (a0_2 : Int) (a0_3 : Int) (a1_0 : Int) (a1_1 : Int) : Option (Bool) := (spec_pzValue.f k a0_0 a0_1 a0_2 a1_0 a1_1).bind fun t273 => (if a0_0 < 3 then (some (t273 == a0_1)) else (some (t273 == a0_3)))
theorem spec_pzFits.mono : ∀ a0 a1 a2 a3 a4 a5 k, LeO (spec_pzFits.f k a0 a1 a2 a3 a4 a5) (spec_pzFits.f (k + 1) a0 a1 a2 a3 a4 a5) := by
 intro a0 a1 a2 a3 a4 a5 k
 unfold spec_pzFits.f
 repeat' first | (with_reducible exact spec_pzValue.mono _ _ _ _ _ _) | (with_reducible exact LeO.refl _) | (with_reducible exact LeO.none _) | (with_reducible refine LeO.ite ?_ ?_) | (with_reducible refine LeO.bind ?_ (fun _ => ?_)) | exact spec_pzValue.mono _ _ _ _ _ _ | exact LeO.none _ | refine LeO.ite ?_ ?_ | refine LeO.bind ?_ (fun _ => ?_)
set_option maxHeartbeats 8000000 in
set_option maxRecDepth 100000 in
theorem spec_pzFits.calls (k : Nat) (a0_0 : Int) (a0_1 : Int) (a0_2 : Int) (a0_3 : Int) (a1_0 : Int) (a1_1 : Int) (r : Bool) (w : World) (h : spec_pzFits.f k a0_0 a0_1 a0_2 a0_3 a1_0 a1_1 = some r) :
  Calls Try.prog 76 #[.agg #[.int .i64 a0_0, .int .i64 a0_1, .int .i64 a0_2, .int .i64 a0_3], .agg #[.int .i64 a1_0, .int .i64 a1_1]] w fun e w' => e = .returned (.bool r) ∧ Below w.heap.size w w' := by
 have hu48 := Try.underlying48; have hu41 := Try.underlying41; have HB := aM (Below.refl w.heap.size w)
 unfold spec_pzFits.f at h; have H := h; clear h
 replace H := bS H; obtain ⟨t273, A3, H⟩ := H
 by_cases c4 : a0_0 < 3
 ·rw [if_pos c4] at H; have c4b0 := dE c4; clear c4; obtain rfl := Option.some.inj H
  go_enter Try.func76, Try.ntmps76
  go_wp2_with (first | ((with_reducible refine gate_dst (N := 2) rfl ?_); refine bV 2 (cs := #[.int .i64 a0_0, .int .i64 a0_1, .int .i64 a0_2, .int .i64 a0_3]) (t := 48) rfl rfl (by first | (go_simp; done) | (go_simp; rfl)) ?_; intro gb271 hg w5 hbox hb; have BK271 := hbox; have GW271 := gZ HB hg; have GE271 := gZ HB hg; replace HB := tB HB hb; clear hb hbox hg) | ((with_reducible refine gate_dst (N := 3) rfl ?_); refine bV 3 (cs := #[.int .i64 a1_0, .int .i64 a1_1]) (t := 41) rfl rfl (by first | (go_simp; done) | (go_simp; rfl)) ?_; intro gb272 hg w6 hbox hb; have BK272 := hbox; have GW272 := gZ HB hg; have GE272 := gZ HB hg; have NB271_272 := nG BK271 hg; have NB272_271 := nH BK271 hg; replace BK271 := bB BK271 hb; replace HB := tB HB hb; clear hb hbox hg; have hnb7 := NB271_272.out; have hnc7 := NB272_271.out; have hcz8_0 := vZ0 BK271; have hcz8_1 := vZ1 BK271; have hcz8_2 := vZ2 BK271; have hcz8_3 := vZ3 BK271; have hfz8_0 := kF BK271.out 0; have hfz8_1 := kF BK271.out 1; have hfz8_2 := kF BK271.out 2; have hfz8_3 := kF BK271.out 3; have hcz9_0 := vZ0 BK272; have hcz9_1 := vZ1 BK272; have hfz9_0 := kF BK272.out 0; have hfz9_1 := kF BK272.out 1) | ((with_reducible refine gC (f := 94) rfl ?_); refine goesL_ (some 14) rfl rfl Try.func94 kR rfl #[.int .i64 a0_0, .agg #[.int .i64 a0_1, .int .i64 a0_2], .agg #[.int .i64 a1_0, .int .i64 a1_1]] rfl sQ ?_; (with_reducible refine (spec_pzValue.calls k a0_0 a0_1 a0_2 a1_0 a1_1 t273 _ A3.out).mono ?_); rintro e w10 ⟨rfl, hb⟩; refine ⟨_, rfl, ?_⟩; replace BK271 := bB BK271 hb; replace BK272 := bB BK272 hb; replace HB := tB HB hb; (try clear hb); (try clear hb2); (try clear hk); (try clear hi); have hcz11_0 := vZ0 BK271; have hcz11_1 := vZ1 BK271; have hcz11_2 := vZ2 BK271; have hcz11_3 := vZ3 BK271; have hfz11_0 := kF BK271.out 0; have hfz11_1 := kF BK271.out 1; have hfz11_2 := kF BK271.out 2; have hfz11_3 := kF BK271.out 3))
  go_ret
  exact ⟨wQ, bE⟩
 ·rw [if_neg c4] at H; have c4b0 := decide_eq_false c4; clear c4; obtain rfl := Option.some.inj H
  go_enter Try.func76, Try.ntmps76
  go_wp2_with (first | ((with_reducible refine gate_dst (N := 2) rfl ?_); refine bV 2 (cs := #[.int .i64 a0_0, .int .i64 a0_1, .int .i64 a0_2, .int .i64 a0_3]) (t := 48) rfl rfl (by first | (go_simp; done) | (go_simp; rfl)) ?_; intro gb271 hg w12 hbox hb; have BK271 := hbox; have GW271 := gZ HB hg; have GE271 := gZ HB hg; replace HB := tB HB hb; clear hb hbox hg) | ((with_reducible refine gate_dst (N := 3) rfl ?_); refine bV 3 (cs := #[.int .i64 a1_0, .int .i64 a1_1]) (t := 41) rfl rfl (by first | (go_simp; done) | (go_simp; rfl)) ?_; intro gb272 hg w13 hbox hb; have BK272 := hbox; have GW272 := gZ HB hg; have GE272 := gZ HB hg; have NB271_272 := nG BK271 hg; have NB272_271 := nH BK271 hg; replace BK271 := bB BK271 hb; replace HB := tB HB hb; clear hb hbox hg; have hnb14 := NB271_272.out; have hnc14 := NB272_271.out; have hcz15_0 := vZ0 BK271; have hcz15_1 := vZ1 BK271; have hcz15_2 := vZ2 BK271; have hcz15_3 := vZ3 BK271; have hfz15_0 := kF BK271.out 0; have hfz15_1 := kF BK271.out 1; have hfz15_2 := kF BK271.out 2; have hfz15_3 := kF BK271.out 3; have hcz16_0 := vZ0 BK272; have hcz16_1 := vZ1 BK272; have hfz16_0 := kF BK272.out 0; have hfz16_1 := kF BK272.out 1) | ((with_reducible refine gC (f := 94) rfl ?_); refine goesL_ (some 14) rfl rfl Try.func94 kR rfl #[.int .i64 a0_0, .agg #[.int .i64 a0_1, .int .i64 a0_2], .agg #[.int .i64 a1_0, .int .i64 a1_1]] rfl sQ ?_; (with_reducible refine (spec_pzValue.calls k a0_0 a0_1 a0_2 a1_0 a1_1 t273 _ A3.out).mono ?_); rintro e w17 ⟨rfl, hb⟩; refine ⟨_, rfl, ?_⟩; replace BK271 := bB BK271 hb; replace BK272 := bB BK272 hb; replace HB := tB HB hb; (try clear hb); (try clear hb2); (try clear hk); (try clear hi); have hcz18_0 := vZ0 BK271; have hcz18_1 := vZ1 BK271; have hcz18_2 := vZ2 BK271; have hcz18_3 := vZ3 BK271; have hfz18_0 := kF BK271.out 0; have hfz18_1 := kF BK271.out 1; have hfz18_2 := kF BK271.out 2; have hfz18_3 := kF BK271.out 3))
  go_ret
  exact ⟨wQ, bE⟩

mutual
def spec_pzAll.l0 : Nat → Int → List (S_impl_Clue) → List (S_impl_Peg) → Int → Option ((List (S_impl_Peg)))
 | 0, _, _, _, _ => none
 | k + 1, x0, x1, x5, x6 => if x6 ≤ x0 then (spec_pzAll.l1 k x0 x1 x5 x6 0) else (some x5)
def spec_pzAll.l1 : Nat → Int → List (S_impl_Clue) → List (S_impl_Peg) → Int → Int → Option ((List (S_impl_Peg)))
 | 0, _, _, _, _, _ => none
 | k + 1, x0, x1, x5, x6, x7 => if x7 ≤ x0 then (spec_pzAll.l2 k x0 x1 x5 x6 x7 true x1 (x1.length : Int) 0 x6 x7) else (spec_pzAll.l0 k x0 x1 x5 (wrap64 (x6 + 1)))
def spec_pzAll.l2 : Nat → Int → List (S_impl_Clue) → List (S_impl_Peg) → Int → Int → Bool → List (S_impl_Clue) → Int → Int → Int → Int → Option ((List (S_impl_Peg)))
 | 0, _, _, _, _, _, _, _, _, _, _, _ => none
 | k + 1, x0, x1, x5, x6, x7, x9, x25, x26, x27, x275000, x275001 => if x27 < x26 then (if 0 ≤ x27 then (if x27 < (x25.length : Int) then (if x9 = true then ((spec_pzFits.f k ((rd_impl_Clue x25 x27).f0) ((rd_impl_Clue x25 x27).f1) ((rd_impl_Clue x25 x27).f2) ((rd_impl_Clue x25 x27).f3) x275000 x275001).bind fun t277 => (spec_pzAll.l2 k x0 x1 x5 x6 x7 t277 x25 x26 (wrap64 (x27 + 1)) x275000 x275001)) else (spec_pzAll.l2 k x0 x1 x5 x6 x7 false x25 x26 (wrap64 (x27 + 1)) x275000 x275001)) else (none)) else (none)) else (if x9 = true then (if x5.length < 8796093022208 then (spec_pzAll.l1 k x0 x1 (x5 ++ [(⟨x275000, x275001⟩ : S_impl_Peg)]) x6 (wrap64 (x7 + 1))) else (none)) else (spec_pzAll.l1 k x0 x1 x5 x6 (wrap64 (x7 + 1))))
end
def spec_pzAll.f (k : Nat) (a0 : Int) (l1 : List (S_impl_Clue)) : Option ((List (S_impl_Peg))) := spec_pzAll.l0 k a0 l1 ([] : List (S_impl_Peg)) 0
theorem spec_pzAll.mono_l : ∀ k, (∀ y0 y1 y2 y3, LeO (spec_pzAll.l0 k y0 y1 y2 y3) (spec_pzAll.l0 (k + 1) y0 y1 y2 y3)) ∧ (∀ y0 y1 y2 y3 y4, LeO (spec_pzAll.l1 k y0 y1 y2 y3 y4) (spec_pzAll.l1 (k + 1) y0 y1 y2 y3 y4)) ∧ (∀ y0 y1 y2 y3 y4 y5 y6 y7 y8 y9 y10, LeO (spec_pzAll.l2 k y0 y1 y2 y3 y4 y5 y6 y7 y8 y9 y10) (spec_pzAll.l2 (k + 1) y0 y1 y2 y3 y4 y5 y6 y7 y8 y9 y10))
 | 0 => ⟨fun _ _ _ _ r h => by simp [spec_pzAll.l0] at h, fun _ _ _ _ _ r h => by simp [spec_pzAll.l1] at h, fun _ _ _ _ _ _ _ _ _ _ _ r h => by simp [spec_pzAll.l2] at h⟩
 | k + 1 => by
  obtain ⟨ih0, ih1, ih2⟩ := spec_pzAll.mono_l k
  refine ⟨?_, ?_, ?_⟩ <;> intros <;> (first | unfold spec_pzAll.l0 | unfold spec_pzAll.l1 | unfold spec_pzAll.l2) <;> repeat' first | (with_reducible exact ih0 _ _ _ _) | (with_reducible exact ih1 _ _ _ _ _) | (with_reducible exact ih2 _ _ _ _ _ _ _ _ _ _ _) | (with_reducible exact spec_pzFits.mono _ _ _ _ _ _ _) | (with_reducible exact LeO.refl _) | (with_reducible exact LeO.none _) | (with_reducible refine LeO.ite ?_ ?_) | (with_reducible refine LeO.bind ?_ (fun _ => ?_)) | exact ih0 _ _ _ _ | exact ih1 _ _ _ _ _ | exact ih2 _ _ _ _ _ _ _ _ _ _ _ | exact spec_pzFits.mono _ _ _ _ _ _ _ | exact LeO.none _ | refine LeO.ite ?_ ?_ | refine LeO.bind ?_ (fun _ => ?_)
theorem spec_pzAll.mono : ∀ a0 a1 k, LeO (spec_pzAll.f k a0 a1) (spec_pzAll.f (k + 1) a0 a1) := by
 intro a0 a1 k
 obtain ⟨ih0, ih1, ih2⟩ := spec_pzAll.mono_l k
 unfold spec_pzAll.f
 repeat' first | (with_reducible exact ih0 _ _ _ _) | (with_reducible exact ih1 _ _ _ _ _) | (with_reducible exact ih2 _ _ _ _ _ _ _ _ _ _ _) | (with_reducible exact spec_pzFits.mono _ _ _ _ _ _ _) | (with_reducible exact LeO.refl _) | (with_reducible exact LeO.none _) | (with_reducible refine LeO.ite ?_ ?_) | (with_reducible refine LeO.bind ?_ (fun _ => ?_)) | exact ih0 _ _ _ _ | exact ih1 _ _ _ _ _ | exact ih2 _ _ _ _ _ _ _ _ _ _ _ | exact spec_pzFits.mono _ _ _ _ _ _ _ | exact LeO.none _ | refine LeO.ite ?_ ?_ | refine LeO.bind ?_ (fun _ => ?_)
set_option maxHeartbeats 8000000 in
set_option maxRecDepth 100000 in
theorem spec_pzAll.calls (k : Nat) (a0 : Int) (A1 : Option Addr) (c1 : Nat) (l1 : List (S_impl_Clue)) (r : List (S_impl_Peg)) (w : World) (hr1 : Kd.C kd_impl_Clue w A1 l1.length l1) (hc1 : l1.length ≤ c1) (h : spec_pzAll.f k a0 l1 = some r) :
  Calls Try.prog 42 #[.int .i64 a0, .slice A1 l1.length c1] w fun e w' => ∃ v0_ : Value, e = .returned (v0_) ∧ Kd.R kd_impl_Peg 41 w' w.heap.size (fun _ => True) v0_ r ∧ Below w.heap.size w w' := by
 have hu41 := Try.underlying41; have hu48 := Try.underlying48; have HR1 := aM hr1; have HC1 := aM hc1; clear hr1 hc1; have HB := aM (Below.refl w.heap.size w)
 unfold spec_pzAll.f at h; have H := h; clear h
 have H' := aM H; clear H
 go_enter Try.func42, Try.ntmps42
 go_wp2
 go_loopg [5, 6] k (fun kq v5 v6 w' => ∃ (x5_1 : List (S_impl_Peg)) (x6_1 : Int), v6 = .int .i64 x6_1 ∧ Aside0 (spec_pzAll.l0 kq a0 l1 x5_1 x6_1 = some r) ∧ Aside0 (kq ≤ k) ∧ Aside0 (Kd.R kd_impl_Peg 41 w' w.heap.size (fun _ => True) v5 x5_1) ∧ Aside0 (Below w.heap.size w w'))
 case atStart => exact ⟨(([] : List (S_impl_Peg))), (0), eQ, H', ⟨Nat.le_refl _⟩, ⟨by first | exact Kd.R_nil _ _ _ _ _ | exact Kd.N_nil _ _ _ _ _ | exact Kd.V_nil _ _ _ _ _ | exact Kd.Q_nil _ _ _ _ _ | exact Kd.S_nil _ _ _ _ _⟩, ⟨bQ⟩⟩
 case round =>
  clear H'; (try clear c1); obtain ⟨x5_1, x6_1, rfl, HA, HK1, HO_5, HB⟩ := hrel
  cases gk with
  | zero => exact absurd HA.out (by simp [spec_pzAll.l0])
  | succ k1 =>
   have H := HA.out; clear HA
   simp only [spec_pzAll.l0] at H
   by_cases c3 : x6_1 ≤ a0
   ·rw [if_pos c3] at H; have c3b0 := dE c3; clear c3; have H' := aM H; clear H; go_wp2
    go_loopg [5, 7] k1 (fun kq v5 v7 w' => ∃ (x5_2 : List (S_impl_Peg)) (x7_2 : Int), v7 = .int .i64 x7_2 ∧ Aside0 (spec_pzAll.l1 kq a0 l1 x5_2 x6_1 x7_2 = some r) ∧ Aside0 (kq ≤ k1) ∧ Aside0 (Kd.R kd_impl_Peg 41 w' w.heap.size (fun _ => True) v5 x5_2) ∧ Aside0 (Below w.heap.size w w'))
    case atStart => exact ⟨(x5_1), (0), eQ, H', ⟨Nat.le_refl _⟩, ⟨by (with_reducible repeat (first | apply rA | apply rN | apply rD)); exact HO_5.out⟩, ⟨bQ⟩⟩
    case round =>
     clear H'; (try clear c1); (try clear c3); (try clear c3b0); obtain ⟨x5_2, x7_2, rfl, HA, HK2, HO_5, HB⟩ := hrel
     cases gk with
     | zero => exact absurd HA.out (by simp [spec_pzAll.l1])
     | succ k2 =>
      have H := HA.out; clear HA
      simp only [spec_pzAll.l1] at H
      by_cases c4 : x7_2 ≤ a0
      ·rw [if_pos c4] at H; have c4b0 := dE c4; clear c4; have H' := aM H; clear H
       go_wp2_with (first | ((with_reducible refine gate_dst (N := 8) rfl ?_); refine bV 8 (cs := #[.int .i64 0, .int .i64 0]) (t := 41) rfl rfl (by first | (go_simp; done) | (go_simp; rfl)) ?_; intro gb274 hg w5 hbox hb; have BK274 := hbox; have GW274 := gZ HB hg; have GE274 := gZ HB hg; replace HO_5 := aM (Kd.R_below (Kd.R_elderB (by (with_reducible repeat (first | apply rA | apply rN | apply rD)); exact HO_5.out) gb274 (Nat.le_of_eq hg.symm)) hb); replace HB := tB HB hb; clear hb hbox hg; have hcz6_0 := vZ0 BK274; have hcz6_1 := vZ1 BK274; have hfz6_0 := kF BK274.out 0; have hfz6_1 := kF BK274.out 1))
       go_loopg [9, 27] k2 (fun kq v9 v27 w' => ∃ (x9_3 : Bool) (x27_3 : Int), v9 = .bool x9_3 ∧ v27 = .int .i64 x27_3 ∧ Aside0 (spec_pzAll.l2 kq a0 l1 x5_2 x6_1 x7_2 x9_3 l1 (l1.length : Int) x27_3 x6_1 x7_2 = some r) ∧ Aside0 (kq ≤ k2) ∧ Aside0 (Kd.R kd_impl_Peg 41 w' w.heap.size (fun k_ => k_ ≠ gb274) u5 x5_2) ∧ Aside0 (w'.heap[gb274]? = some (.cells #[.int .i64 x6_1, .int .i64 x7_2] 41 (0, 0))) ∧ Aside0 (Below w.heap.size w w'))
       case atStart => exact ⟨(true), (0), eQ, eQ, H', ⟨Nat.le_refl _⟩, ⟨by (with_reducible repeat (first | apply rA | apply rN | apply rD)); exact Kd.R_mono (Kd.R_far (p := ⟨gb274, 1, none⟩) (Kd.R_far (p := ⟨gb274, 0, none⟩) (Kd.R_mono HO_5.out (fun k_ hk => (⟨hk, hk.2⟩ : _ ∧ k_ ≠ gb274))) (fun _ hk => hk.2) (.int .i64 x6_1)) (fun _ hk => hk.2) (.int .i64 x7_2)) (fun _ hk => hk.1.2)⟩, ⟨fQ BK274⟩, ⟨bE⟩⟩
       case round =>
        clear H'; (try clear c1); (try clear c3); (try clear c3b0); (try clear c4); (try clear c4b0); (try clear hcz6_0); (try clear hcz6_1); (try clear hfz6_0); (try clear hfz6_1); obtain ⟨x9_3, x27_3, rfl, rfl, HA, HK3, HO_5, BK274, HB⟩ := hrel
        cases gk with
        | zero => exact absurd HA.out (by simp [spec_pzAll.l2])
        | succ k3 =>
         have H := HA.out; clear HA
         simp only [spec_pzAll.l2] at H
         by_cases c7 : x27_3 < (l1.length : Int)
         ·rw [if_pos c7] at H; have c7b0 := dE c7; clear c7; replace H := iD H; obtain ⟨c8b0, H⟩ := H; replace H := iD H; obtain ⟨c9b0, H⟩ := H
          by_cases c10 : x9_3 = true
          ·subst c10; replace H := iT H; replace H := bS H; obtain ⟨t277, A11, H⟩ := H; have H' := aM H; clear H; have p275 : 0 ≤ (x27_3 : Int) := dT aQ; have q275 : x27_3 < (l1.length : Int) := dT aQ; obtain ⟨ad275, e275, hx275_0, hx275_1, hx275_2, hx275_3⟩ := at_impl_Clue HR1.out x27_3 p275 q275
           cases e275
           replace hx275_0 := hC HB hx275_0; replace hx275_1 := hC HB hx275_1; replace hx275_2 := hC HB hx275_2; replace hx275_3 := hC HB hx275_3; replace p275 := eq_true p275; replace q275 := eq_true q275
           go_wp2_with (first | ((with_reducible refine gate_dst (N := 11) rfl ?_); refine bV 11 (cs := #[.int .i64 0, .int .i64 0, .int .i64 0, .int .i64 0]) (t := 48) rfl rfl (by first | (go_simp; done) | (go_simp; rfl)) ?_; intro gb276 hg w12 hbox hb; have BK276 := hbox; have GW276 := gZ HB hg; have GE276 := gZ HB hg; have NB274_276 := nG BK274 hg; have NB276_274 := nH BK274 hg; replace HO_5 := aM (Kd.R_below (by (with_reducible repeat (first | apply rA | apply rN | apply rD)); exact HO_5.out) hb); replace BK274 := bB BK274 hb; replace HB := tB HB hb; clear hb hbox hg; have hnb13 := NB276_274.out; have hnc13 := NB274_276.out; have hcz14_0 := vZ0 BK276; have hcz14_1 := vZ1 BK276; have hcz14_2 := vZ2 BK276; have hcz14_3 := vZ3 BK276; have hfz14_0 := kF BK276.out 0; have hfz14_1 := kF BK276.out 1; have hfz14_2 := kF BK276.out 2; have hfz14_3 := kF BK276.out 3; have hcz15_0 := vZ0 BK274; have hcz15_1 := vZ1 BK274; have hfz15_0 := kF BK274.out 0; have hfz15_1 := kF BK274.out 1) | (go_at_call 76; (with_reducible refine (spec_pzFits.calls k3 ((rd_impl_Clue l1 x27_3).f0) ((rd_impl_Clue l1 x27_3).f1) ((rd_impl_Clue l1 x27_3).f2) ((rd_impl_Clue l1 x27_3).f3) x6_1 x7_2 t277 _ A11.out).mono ?_); rintro e w16 ⟨rfl, hb⟩; replace HO_5 := aM (Kd.R_below (by (with_reducible repeat (first | apply rA | apply rN | apply rD)); exact (Kd.R_mono (Kd.R_far (p := ⟨gb276, 3, none⟩) (Kd.R_far (p := ⟨gb276, 2, none⟩) (Kd.R_far (p := ⟨gb276, 1, none⟩) (Kd.R_far (p := ⟨gb276, 0, none⟩) (Kd.R_types HO_5.out BK276.out (by decide)) (fun _ hk => hk.2) (.int .i64 ((rd_impl_Clue l1 x27_3).f0))) (fun _ hk => hk.2) (.int .i64 ((rd_impl_Clue l1 x27_3).f1))) (fun _ hk => hk.2) (.int .i64 ((rd_impl_Clue l1 x27_3).f2))) (fun _ hk => hk.2) (.int .i64 ((rd_impl_Clue l1 x27_3).f3))) (fun _ h_ => h_.1))) hb); replace BK274 := aM (blk_below (g := gb274) (o := .cells #[.int .i64 x6_1, .int .i64 x7_2] 41 (0, 0)) (fQ BK274) hb); replace BK276 := aM (blk_below (g := gb276) (o := .cells #[.int .i64 ((rd_impl_Clue l1 x27_3).f0), .int .i64 ((rd_impl_Clue l1 x27_3).f1), .int .i64 ((rd_impl_Clue l1 x27_3).f2), .int .i64 ((rd_impl_Clue l1 x27_3).f3)] 48 (0, 0)) (fQ BK276) hb); replace HB := tB HB hb; (try clear hb); (try clear hb2); (try clear hk); (try clear hi)))
           go_roundg k3
           case measure => have := HK1.out; have := HK2.out; have := HK3.out; omega
           case rel => exact ⟨(t277), (wrap64 (x27_3 + 1)), eQ, eQ, H', ⟨by have := HK1.out; have := HK2.out; have := HK3.out; omega⟩, ⟨by (with_reducible repeat (first | apply rA | apply rN | apply rD)); exact HO_5.out⟩, ⟨gQ BK274⟩, ⟨bE⟩⟩
          ·replace c10 := Bool.eq_false_iff.mpr c10; subst c10; replace H := iF H; have H' := aM H; clear H; have p275 : 0 ≤ (x27_3 : Int) := dT aQ; have q275 : x27_3 < (l1.length : Int) := dT aQ; obtain ⟨ad275, e275, hx275_0, hx275_1, hx275_2, hx275_3⟩ := at_impl_Clue HR1.out x27_3 p275 q275
           cases e275
           replace hx275_0 := hC HB hx275_0; replace hx275_1 := hC HB hx275_1; replace hx275_2 := hC HB hx275_2; replace hx275_3 := hC HB hx275_3; replace p275 := eq_true p275; replace q275 := eq_true q275
           go_wp2_with (first | ((with_reducible refine gate_dst (N := 11) rfl ?_); refine bV 11 (cs := #[.int .i64 0, .int .i64 0, .int .i64 0, .int .i64 0]) (t := 48) rfl rfl (by first | (go_simp; done) | (go_simp; rfl)) ?_; intro gb276 hg w17 hbox hb; have BK276 := hbox; have GW276 := gZ HB hg; have GE276 := gZ HB hg; have NB274_276 := nG BK274 hg; have NB276_274 := nH BK274 hg; replace HO_5 := aM (Kd.R_below (by (with_reducible repeat (first | apply rA | apply rN | apply rD)); exact HO_5.out) hb); replace BK274 := bB BK274 hb; replace HB := tB HB hb; clear hb hbox hg; have hnb18 := NB276_274.out; have hnc18 := NB274_276.out; have hcz19_0 := vZ0 BK276; have hcz19_1 := vZ1 BK276; have hcz19_2 := vZ2 BK276; have hcz19_3 := vZ3 BK276; have hfz19_0 := kF BK276.out 0; have hfz19_1 := kF BK276.out 1; have hfz19_2 := kF BK276.out 2; have hfz19_3 := kF BK276.out 3))
           go_roundg k3
           case measure => have := HK1.out; have := HK2.out; have := HK3.out; omega
           case rel => exact ⟨(false), (wrap64 (x27_3 + 1)), eQ, eQ, H', ⟨by have := HK1.out; have := HK2.out; have := HK3.out; omega⟩, ⟨by (with_reducible repeat (first | apply rA | apply rN | apply rD)); exact Kd.R_mono (Kd.R_far (p := ⟨gb276, 3, none⟩) (Kd.R_far (p := ⟨gb276, 2, none⟩) (Kd.R_far (p := ⟨gb276, 1, none⟩) (Kd.R_far (p := ⟨gb276, 0, none⟩) (Kd.R_types HO_5.out BK276.out (by decide)) (fun _ hk => hk.2) (.int .i64 ((rd_impl_Clue l1 x27_3).f0))) (fun _ hk => hk.2) (.int .i64 ((rd_impl_Clue l1 x27_3).f1))) (fun _ hk => hk.2) (.int .i64 ((rd_impl_Clue l1 x27_3).f2))) (fun _ hk => hk.2) (.int .i64 ((rd_impl_Clue l1 x27_3).f3))) (fun _ hk => hk.1)⟩, ⟨fQ BK274⟩, ⟨bE⟩⟩
         ·rw [if_neg c7] at H; have c7b0 := decide_eq_false c7; clear c7
          by_cases c20 : x9_3 = true
          ·subst c20; replace H := iT H; replace H := iN H; obtain ⟨c21, H⟩ := H; have LMc21 := aM c21; clear c21; obtain ⟨y278, hy278⟩ : ∃ y_ : List (S_impl_Peg), y_ = (x5_2 ++ [(⟨x6_1, x7_2⟩ : S_impl_Peg)]) := ⟨_, rfl⟩; rw [← hy278] at H; have Ny278 := aM hy278; clear hy278; have H' := aM H; clear H; have hcz22_0 : wr.cell? ⟨gb274, 0, none⟩ = some (.int .i64 x6_1) := vZ0 BK274; have hcz22_1 : wr.cell? ⟨gb274, 1, none⟩ = some (.int .i64 x7_2) := vZ1 BK274; have hfz22_0 := kF BK274.out 0; have hfz22_1 := kF BK274.out 1
           go_wp2_with (first | ((with_reducible refine gate_builtin (b := .append) (xs := #[.tmp 39, .tmp 41]) rfl ?_); at_builtin; refine Kd.R_append kd_impl_Peg (w0 := w) w.heap.size rfl (.tmp 39) (.tmp 41) 26 41 (.agg #[(.int .i64 0), (.int .i64 0)]) 16 rfl Try.underlying26 info41 rfl (by decide) (by omega) u5 x5_2 (⟨x6_1, x7_2⟩ : S_impl_Peg) [.int .i64 x6_1, .int .i64 x7_2] (fun k_ => k_ ≠ gb274) (fun _ => False) rfl rfl ?aP (fun _ hk => hk.elim) ?aF ?aO ?aB ?aS ?aL ?_; (case aP => exact kd_impl_Peg_mkM _ _ _ (⟨x6_1, x7_2⟩ : S_impl_Peg)); (case aB => exact bE); (case aF => exact (fun k_ hk => Kd.freshB (g := gb274) (o := .cells #[.int .i64 x6_1, .int .i64 x7_2] 41 (0, 0)) (gQ BK274) k_ hk)); (case aO => exact (by (with_reducible repeat (first | apply rA | apply rN | apply rD)); exact HO_5.out)); (case aS => exact (pZ bE)); (case aL => have := LMc21.out; omega); intro v279 w23 ho hb hg hat; rw [← Ny278.out] at ho; have n0_ := aM (blk_grown (g := gb274) (o := .cells #[.int .i64 x6_1, .int .i64 x7_2] 41 (0, 0)) (gQ BK274) hg (Kd.R_away HO_5.out (fun _ hk => hk))); have n1_ := aM (hb); have n2_ := aM (ho); clear BK274; clear HB; clear HO_5; have BK274 := n0_; have HB := n1_; have HO280 := n2_; clear n0_ n1_ n2_; clear ho hb hg hat))
           go_roundg k3
           case measure => have := HK1.out; have := HK2.out; have := HK3.out; omega
           case rel => exact ⟨(y278), (wrap64 (x7_2 + 1)), eQ, H', ⟨by have := HK1.out; have := HK2.out; have := HK3.out; omega⟩, ⟨by (with_reducible repeat (first | apply rA | apply rN | apply rD)); exact Kd.R_mono HO280.out (fun _ hk => trivial)⟩, ⟨bE⟩⟩
          ·replace c20 := Bool.eq_false_iff.mpr c20; subst c20; replace H := iF H; have H' := aM H; clear H; go_wp2
           go_roundg k3
           case measure => have := HK1.out; have := HK2.out; have := HK3.out; omega
           case rel => exact ⟨(x5_2), (wrap64 (x7_2 + 1)), eQ, H', ⟨by have := HK1.out; have := HK2.out; have := HK3.out; omega⟩, ⟨by (with_reducible repeat (first | apply rA | apply rN | apply rD)); exact Kd.R_mono HO_5.out (fun _ hk => trivial)⟩, ⟨bE⟩⟩
      ·rw [if_neg c4] at H; have c4b0 := decide_eq_false c4; clear c4; have H' := aM H; clear H; go_wp2
       go_roundg k2
       case measure => have := HK1.out; have := HK2.out; omega
       case rel => exact ⟨(x5_2), (wrap64 (x6_1 + 1)), eQ, H', ⟨by have := HK1.out; have := HK2.out; omega⟩, ⟨by (with_reducible repeat (first | apply rA | apply rN | apply rD)); exact HO_5.out⟩, ⟨bQ⟩⟩
   ·rw [if_neg c3] at H; have c3b0 := decide_eq_false c3; clear c3; obtain rfl := Option.some.inj H; go_wp2
    go_ret
    exact ⟨_, by first | rfl | (simp [errW_none, errW_some] <;> rfl) | (simp [*, errW_none, errW_some] <;> rfl), by (with_reducible repeat (first | apply rA | apply rN | apply rD)); exact HO_5.out, bQ⟩

def spec_pzSolved.f (k : Nat) (a0 : Int) (l1 : List (S_impl_Clue)) : Option (Bool) := (spec_pzAll.f k a0 l1).bind fun t281 => (some ((t281.length : Int) == 1))
theorem spec_pzSolved.mono : ∀ a0 a1 k, LeO (spec_pzSolved.f k a0 a1) (spec_pzSolved.f (k + 1) a0 a1) := by
 intro a0 a1 k
 unfold spec_pzSolved.f
 repeat' first | (with_reducible exact spec_pzAll.mono _ _ _) | (with_reducible exact LeO.refl _) | (with_reducible exact LeO.none _) | (with_reducible refine LeO.ite ?_ ?_) | (with_reducible refine LeO.bind ?_ (fun _ => ?_)) | exact spec_pzAll.mono _ _ _ | exact LeO.none _ | refine LeO.ite ?_ ?_ | refine LeO.bind ?_ (fun _ => ?_)
set_option maxHeartbeats 8000000 in
set_option maxRecDepth 100000 in
theorem spec_pzSolved.calls (k : Nat) (a0 : Int) (A1 : Option Addr) (c1 : Nat) (l1 : List (S_impl_Clue)) (r : Bool) (w : World) (hr1 : Kd.C kd_impl_Clue w A1 l1.length l1) (hc1 : l1.length ≤ c1) (h : spec_pzSolved.f k a0 l1 = some r) :
  Calls Try.prog 70 #[.int .i64 a0, .slice A1 l1.length c1] w fun e w' => e = .returned (.bool r) ∧ Below w.heap.size w w' := by
 have HR1 := aM hr1; have HC1 := aM hc1; clear hr1 hc1; have HB := aM (Below.refl w.heap.size w)
 unfold spec_pzSolved.f at h; have H := h; clear h
 replace H := bS H; obtain ⟨t281, A3, H⟩ := H; obtain rfl := Option.some.inj H
 go_enter Try.func70, Try.ntmps70
 go_wp2_with (first | ((with_reducible refine gC (f := 42) rfl ?_); refine goesL_ (some 7) rfl rfl Try.func42 kR rfl #[.int .i64 a0, .slice A1 l1.length c1] rfl sQ ?_; (with_reducible refine (spec_pzAll.calls k a0 _ _ l1 t281 _ ?side1 ?side2 A3.out).mono ?_); (case side1 => repeat (first | exact HR1.out | (with_reducible refine cA ?_ _) | (with_reducible refine cN ?_ _) | (with_reducible refine cD ?_))); (case side2 => exact HC1.out); rintro e w4 ⟨v282, rfl, ho0, hb⟩; refine ⟨_, rfl, ?_⟩; have HO283 := aM (Kd.R_lower ho0 (pZ bQ)); replace HB := tB HB hb; (try clear hb); (try clear hb2); (try clear hk); (try clear hi); (try clear ho0); obtain ⟨Ao5, co5, eo5⟩ := Kd.R_slice HO283.out; subst eo5))
 go_ret
 exact ⟨wQ, bQ⟩

end Go.Proofs.Ytoeclfihlhmnpaa.X
