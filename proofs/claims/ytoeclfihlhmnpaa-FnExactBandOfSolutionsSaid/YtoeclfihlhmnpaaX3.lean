-- thin
-- short
-- compact
import Derived.Test.YtoeclfihlhmnpaaXA
import Derived.Test.YtoeclfihlhmnpaaX0
import Derived.Test.YtoeclfihlhmnpaaX2
namespace Go.Proofs.Ytoeclfihlhmnpaa.X
open Go.RowKit Go.Proofs.Ytoeclfihlhmnpaa.XW Go.Proofs.YtoeclfihlhmnpaaW.PrintWords Go.Proofs.YtoeclfihlhmnpaaW.PrintLast Go.Proofs.YtoeclfihlhmnpaaW.PrintMore
attribute [local go_sem] max2_int min2_int max_two min_two max_three min_three max_four min_four   -- for this text's walks alone
set_option linter.unusedVariables false
set_option linter.unusedSimpArgs false

mutual
def spec_pzGood.j0 : Nat → Bool → Int → List (S_impl_Clue) → Option (Bool)
 | 0, _, _, _ => none
 | k + 1, x14, x117000, x117001 => if x14 = true then (some false) else (spec_pzGood.l0 k x117001 (x117001.length : Int) 0 x117000 x117001)
def spec_pzGood.l0 : Nat → List (S_impl_Clue) → Int → Int → Int → List (S_impl_Clue) → Option (Bool)
 | 0, _, _, _, _, _ => none
 | k + 1, x16, x17, x18, x117000, x117001 => if x18 < x17 then (if 0 ≤ x18 then (if x18 < (x16.length : Int) then ((spec_pzClue.f k x117000 ((rd_impl_Clue x16 x18).f0) ((rd_impl_Clue x16 x18).f1) ((rd_impl_Clue x16 x18).f2) ((rd_impl_Clue x16 x18).f3)).bind fun t120 => (if t120 = true then (spec_pzGood.l0 k x16 x17 (wrap64 (x18 + 1)) x117000 x117001) else (some false))) else (none)) else (none)) else (some true)
end
def spec_pzGood.f (k : Nat) (a0_0 : Int) (l0_1 : List (S_impl_Clue)) : Option (Bool) := (spec_pzSide.f a0_0).bind fun t117 => (if t117 = true then (spec_pzGood.j0 k (decide ((l0_1.length : Int) > 6)) a0_0 l0_1) else (spec_pzGood.j0 k true a0_0 l0_1))
theorem spec_pzGood.mono_l : ∀ k, (∀ y0 y1 y2, LeO (spec_pzGood.j0 k y0 y1 y2) (spec_pzGood.j0 (k + 1) y0 y1 y2)) ∧ (∀ y0 y1 y2 y3 y4, LeO (spec_pzGood.l0 k y0 y1 y2 y3 y4) (spec_pzGood.l0 (k + 1) y0 y1 y2 y3 y4))
 | 0 => ⟨fun _ _ _ r h => by simp [spec_pzGood.j0] at h, fun _ _ _ _ _ r h => by simp [spec_pzGood.l0] at h⟩
 | k + 1 => by
  obtain ⟨ih0, ih1⟩ := spec_pzGood.mono_l k
  refine ⟨?_, ?_⟩ <;> intros <;> (first | unfold spec_pzGood.j0 | unfold spec_pzGood.l0) <;> repeat' first | (with_reducible exact ih0 _ _ _) | (with_reducible exact ih1 _ _ _ _ _) | (with_reducible exact spec_pzClue.mono _ _ _ _ _ _) | (with_reducible exact LeO.refl _) | (with_reducible exact LeO.none _) | (with_reducible refine LeO.ite ?_ ?_) | (with_reducible refine LeO.bind ?_ (fun _ => ?_)) | exact ih0 _ _ _ | exact ih1 _ _ _ _ _ | exact spec_pzClue.mono _ _ _ _ _ _ | exact LeO.none _ | refine LeO.ite ?_ ?_ | refine LeO.bind ?_ (fun _ => ?_)
theorem spec_pzGood.mono : ∀ a0 a1 k, LeO (spec_pzGood.f k a0 a1) (spec_pzGood.f (k + 1) a0 a1) := by
 intro a0 a1 k
 obtain ⟨ih0, ih1⟩ := spec_pzGood.mono_l k
 unfold spec_pzGood.f
 repeat' first | (with_reducible exact ih0 _ _ _) | (with_reducible exact ih1 _ _ _ _ _) | (with_reducible exact spec_pzClue.mono _ _ _ _ _ _) | (with_reducible exact LeO.refl _) | (with_reducible exact LeO.none _) | (with_reducible refine LeO.ite ?_ ?_) | (with_reducible refine LeO.bind ?_ (fun _ => ?_)) | exact ih0 _ _ _ | exact ih1 _ _ _ _ _ | exact spec_pzClue.mono _ _ _ _ _ _ | exact LeO.none _ | refine LeO.ite ?_ ?_ | refine LeO.bind ?_ (fun _ => ?_)
set_option maxHeartbeats 8000000 in
set_option maxRecDepth 100000 in
theorem spec_pzGood.calls (k : Nat) (a0_0 : Int) (A0_1 : Option Addr) (c0_1 : Nat) (l0_1 : List (S_impl_Clue)) (r : Bool) (w : World) (hr0_1 : Kd.C kd_impl_Clue w A0_1 l0_1.length l0_1) (hc0_1 : l0_1.length ≤ c0_1) (h : spec_pzGood.f k a0_0 l0_1 = some r) :
  Calls Try.prog 41 #[.agg #[.int .i64 a0_0, .slice A0_1 l0_1.length c0_1]] w fun e w' => e = .returned (.bool r) ∧ Below w.heap.size w w' := by
 have hu31 := Try.underlying31; have hu48 := Try.underlying48; have HR0_1 := aM hr0_1; have HC0_1 := aM hc0_1; clear hr0_1 hc0_1; have HB := aM (Below.refl w.heap.size w)
 unfold spec_pzGood.f at h; have H := h; clear h
 have HC2 := aM H; clear H
 go_enter Try.func41, Try.ntmps41
 go_upto_region 1 with (first | ((with_reducible refine gate_dst (N := 1) rfl ?_); (try (refine gate_guard (by rfl) ?_; dsimp only)); refine bV 1 (cs := #[.int .i64 a0_0, .slice A0_1 l0_1.length c0_1]) (t := 31) rfl rfl (by first | (go_simp; done) | (go_simp; rfl)) ?_; intro gb116 hg w3 hbox hb; have BK116 := hbox; have GW116 := gZ HB hg; have GE116 := gZ HB hg; replace HB := tB HB hb; clear hb hbox hg))
 (try simp only [Act.put, sI, sZ, sS])
 go_cut [14] (fun v14 wc => ∃ (kq : Nat) (x14_1 : Bool), v14 = .bool x14_1 ∧ Aside0 (spec_pzGood.j0 kq x14_1 a0_0 l0_1 = some r) ∧ Aside0 (kq ≤ k) ∧ Aside0 (wc.heap[gb116]? = some (.cells #[.int .i64 a0_0, (.slice A0_1 l0_1.length c0_1)] 31 (0, 0))) ∧ Aside0 (Below w.heap.size w wc))
 case first =>
  have H := HC2.out; clear HC2; replace H := bS H; obtain ⟨t117, A4, H⟩ := H
  by_cases c5 : t117 = true
  ·subst c5; replace H := iT H; have H' := aM H; clear H; have hcz6_0 := vZ0 BK116; have hcz6_1 := vZ1 BK116; have hfz6_0 := kF BK116.out 0; have hfz6_1 := kF BK116.out 1
   go_wp2_with (first | ((with_reducible refine gC (f := 57) rfl ?_); refine goesL_ (some 7) rfl rfl Try.func57 kR rfl #[.int .i64 a0_0] rfl sQ ?_; (with_reducible refine (spec_pzSide.calls a0_0 true _ A4.out).mono ?_); rintro e w' ⟨rfl, ⟨nd, rfl⟩⟩; refine ⟨_, rfl, ?_⟩))
   go_meet
   case rel => exact ⟨_, (decide ((l0_1.length : Int) > 6)), eQ, H', ⟨by first | omega | exact Nat.le_refl _⟩, ⟨gQ BK116⟩, ⟨bE⟩⟩
  ·replace c5 := Bool.eq_false_iff.mpr c5; subst c5; replace H := iF H; have H' := aM H; clear H; have hcz7_0 := vZ0 BK116; have hcz7_1 := vZ1 BK116; have hfz7_0 := kF BK116.out 0; have hfz7_1 := kF BK116.out 1
   go_wp2_with (first | ((with_reducible refine gC (f := 57) rfl ?_); refine goesL_ (some 7) rfl rfl Try.func57 kR rfl #[.int .i64 a0_0] rfl sQ ?_; (with_reducible refine (spec_pzSide.calls a0_0 false _ A4.out).mono ?_); rintro e w' ⟨rfl, ⟨nd, rfl⟩⟩; refine ⟨_, rfl, ?_⟩))
   go_meet
   case rel => exact ⟨_, (true), eQ, H', ⟨by first | omega | exact Nat.le_refl _⟩, ⟨gQ BK116⟩, ⟨bE⟩⟩
 case rest =>
  clear HC2; obtain ⟨kq, x14_1, rfl, HA, HJ1, BK116, HB⟩ := hcut
  cases kq with
  | zero => exact absurd HA.out (by simp [spec_pzGood.j0])
  | succ kj1 =>
   have H := HA.out; clear HA
   simp only [spec_pzGood.j0] at H
   by_cases c8 : x14_1 = true
   ·subst c8; replace H := iT H; obtain rfl := Option.some.inj H; go_wp2
    go_ret
    exact ⟨wQ, bE⟩
   ·replace c8 := Bool.eq_false_iff.mpr c8; subst c8; replace H := iF H; have H' := aM H; clear H; have hcz9_0 : wc.cell? ⟨gb116, 0, none⟩ = some (.int .i64 a0_0) := vZ0 BK116; have hcz9_1 : wc.cell? ⟨gb116, 1, none⟩ = some (.slice A0_1 l0_1.length c0_1) := vZ1 BK116; have hfz9_0 := kF BK116.out 0; have hfz9_1 := kF BK116.out 1; go_wp2
    go_loopg [18] kj1 (fun kq v18 w' => ∃ (x18_2 : Int), v18 = .int .i64 x18_2 ∧ Aside0 (spec_pzGood.l0 kq l0_1 (l0_1.length : Int) x18_2 a0_0 l0_1 = some r) ∧ Aside0 (kq ≤ kj1) ∧ Aside0 (w'.heap[gb116]? = some (.cells #[.int .i64 a0_0, (.slice A0_1 l0_1.length c0_1)] 31 (0, 0))) ∧ Aside0 (Below w.heap.size w w'))
    case atStart => exact ⟨(0), eQ, H', ⟨Nat.le_refl _⟩, ⟨gQ BK116⟩, ⟨bE⟩⟩
    case round =>
     clear H'; (try clear c8); (try clear hcz9_0); (try clear hcz9_1); (try clear hfz9_0); (try clear hfz9_1); obtain ⟨x18_2, rfl, HA, HK2, BK116, HB⟩ := hrel
     cases gk with
     | zero => exact absurd HA.out (by simp [spec_pzGood.l0])
     | succ k2 =>
      have H := HA.out; clear HA
      simp only [spec_pzGood.l0] at H
      by_cases c10 : x18_2 < (l0_1.length : Int)
      ·rw [if_pos c10] at H; have c10b0 := dE c10; clear c10; replace H := iD H; obtain ⟨c11b0, H⟩ := H; replace H := iD H; obtain ⟨c12b0, H⟩ := H; replace H := bS H; obtain ⟨t120, A13, H⟩ := H
       by_cases c14 : t120 = true
       ·subst c14; replace H := iT H; have H' := aM H; clear H; have p118 : 0 ≤ (x18_2 : Int) := dT aQ; have q118 : x18_2 < (l0_1.length : Int) := dT aQ; obtain ⟨ad118, e118, hx118_0, hx118_1, hx118_2, hx118_3⟩ := at_impl_Clue HR0_1.out x18_2 p118 q118
        cases e118
        replace hx118_0 := hC HB hx118_0; replace hx118_1 := hC HB hx118_1; replace hx118_2 := hC HB hx118_2; replace hx118_3 := hC HB hx118_3; replace p118 := eq_true p118; replace q118 := eq_true q118
        go_wp2_with (first | ((with_reducible refine gate_dst (N := 4) rfl ?_); (try (refine gate_guard (by rfl) ?_; dsimp only)); refine bV 4 (cs := #[.int .i64 0, .int .i64 0, .int .i64 0, .int .i64 0]) (t := 48) rfl rfl (by first | (go_simp; done) | (go_simp; rfl)) ?_; intro gb119 hg w15 hbox hb; have BK119 := hbox; have GW119 := gZ HB hg; have GE119 := gZ HB hg; have NB116_119 := nG BK116 hg; have NB119_116 := nH BK116 hg; replace BK116 := bB BK116 hb; replace HB := tB HB hb; clear hb hbox hg; have hnb16 := NB119_116.out; have hnc16 := NB116_119.out; have hcz17_0 := vZ0 BK119; have hcz17_1 := vZ1 BK119; have hcz17_2 := vZ2 BK119; have hcz17_3 := vZ3 BK119; have hfz17_0 := kF BK119.out 0; have hfz17_1 := kF BK119.out 1; have hfz17_2 := kF BK119.out 2; have hfz17_3 := kF BK119.out 3; have hcz18_0 := vZ0 BK116; have hcz18_1 := vZ1 BK116; have hfz18_0 := kF BK116.out 0; have hfz18_1 := kF BK116.out 1) | ((with_reducible refine gC (f := 75) rfl ?_); refine goesL_ (some 25) rfl rfl Try.func75 kR rfl #[.int .i64 a0_0, .agg #[.int .i64 ((rd_impl_Clue l0_1 x18_2).f0), .int .i64 ((rd_impl_Clue l0_1 x18_2).f1), .int .i64 ((rd_impl_Clue l0_1 x18_2).f2), .int .i64 ((rd_impl_Clue l0_1 x18_2).f3)]] rfl sQ ?_; (with_reducible refine (spec_pzClue.calls k2 a0_0 ((rd_impl_Clue l0_1 x18_2).f0) ((rd_impl_Clue l0_1 x18_2).f1) ((rd_impl_Clue l0_1 x18_2).f2) ((rd_impl_Clue l0_1 x18_2).f3) true _ A13.out).mono ?_); rintro e w19 ⟨rfl, hb⟩; refine ⟨_, rfl, ?_⟩; replace BK116 := aM (blk_below (g := gb116) (o := .cells #[.int .i64 a0_0, .slice (some ad118) l0_1.length c0_1] 31 (0, 0)) (fQ BK116) hb); replace BK119 := aM (blk_below (g := gb119) (o := .cells #[.int .i64 ((rd_impl_Clue l0_1 x18_2).f0), .int .i64 ((rd_impl_Clue l0_1 x18_2).f1), .int .i64 ((rd_impl_Clue l0_1 x18_2).f2), .int .i64 ((rd_impl_Clue l0_1 x18_2).f3)] 48 (0, 0)) (fQ BK119) hb); replace HB := tB HB hb; (try clear hb); (try clear hb2); (try clear hk); (try clear hi)))
        go_roundg k2
        case measure => have := HJ1.out; have := HK2.out; omega
        case rel => exact ⟨(wrap64 (x18_2 + 1)), eQ, H', ⟨by have := HJ1.out; have := HK2.out; omega⟩, ⟨gQ BK116⟩, ⟨bE⟩⟩
       ·replace c14 := Bool.eq_false_iff.mpr c14; subst c14; replace H := iF H; obtain rfl := Option.some.inj H; have p118 : 0 ≤ (x18_2 : Int) := dT aQ; have q118 : x18_2 < (l0_1.length : Int) := dT aQ; obtain ⟨ad118, e118, hx118_0, hx118_1, hx118_2, hx118_3⟩ := at_impl_Clue HR0_1.out x18_2 p118 q118
        cases e118
        replace hx118_0 := hC HB hx118_0; replace hx118_1 := hC HB hx118_1; replace hx118_2 := hC HB hx118_2; replace hx118_3 := hC HB hx118_3; replace p118 := eq_true p118; replace q118 := eq_true q118
        go_wp2_with (first | ((with_reducible refine gate_dst (N := 4) rfl ?_); (try (refine gate_guard (by rfl) ?_; dsimp only)); refine bV 4 (cs := #[.int .i64 0, .int .i64 0, .int .i64 0, .int .i64 0]) (t := 48) rfl rfl (by first | (go_simp; done) | (go_simp; rfl)) ?_; intro gb119 hg w20 hbox hb; have BK119 := hbox; have GW119 := gZ HB hg; have GE119 := gZ HB hg; have NB116_119 := nG BK116 hg; have NB119_116 := nH BK116 hg; replace BK116 := bB BK116 hb; replace HB := tB HB hb; clear hb hbox hg; have hnb21 := NB119_116.out; have hnc21 := NB116_119.out; have hcz22_0 := vZ0 BK119; have hcz22_1 := vZ1 BK119; have hcz22_2 := vZ2 BK119; have hcz22_3 := vZ3 BK119; have hfz22_0 := kF BK119.out 0; have hfz22_1 := kF BK119.out 1; have hfz22_2 := kF BK119.out 2; have hfz22_3 := kF BK119.out 3; have hcz23_0 := vZ0 BK116; have hcz23_1 := vZ1 BK116; have hfz23_0 := kF BK116.out 0; have hfz23_1 := kF BK116.out 1) | ((with_reducible refine gC (f := 75) rfl ?_); refine goesL_ (some 25) rfl rfl Try.func75 kR rfl #[.int .i64 a0_0, .agg #[.int .i64 ((rd_impl_Clue l0_1 x18_2).f0), .int .i64 ((rd_impl_Clue l0_1 x18_2).f1), .int .i64 ((rd_impl_Clue l0_1 x18_2).f2), .int .i64 ((rd_impl_Clue l0_1 x18_2).f3)]] rfl sQ ?_; (with_reducible refine (spec_pzClue.calls k2 a0_0 ((rd_impl_Clue l0_1 x18_2).f0) ((rd_impl_Clue l0_1 x18_2).f1) ((rd_impl_Clue l0_1 x18_2).f2) ((rd_impl_Clue l0_1 x18_2).f3) false _ A13.out).mono ?_); rintro e w24 ⟨rfl, hb⟩; refine ⟨_, rfl, ?_⟩; replace BK116 := aM (blk_below (g := gb116) (o := .cells #[.int .i64 a0_0, .slice (some ad118) l0_1.length c0_1] 31 (0, 0)) (fQ BK116) hb); replace BK119 := aM (blk_below (g := gb119) (o := .cells #[.int .i64 ((rd_impl_Clue l0_1 x18_2).f0), .int .i64 ((rd_impl_Clue l0_1 x18_2).f1), .int .i64 ((rd_impl_Clue l0_1 x18_2).f2), .int .i64 ((rd_impl_Clue l0_1 x18_2).f3)] 48 (0, 0)) (fQ BK119) hb); replace HB := tB HB hb; (try clear hb); (try clear hb2); (try clear hk); (try clear hi)))
        go_ret
        exact ⟨wQ, bE⟩
      ·rw [if_neg c10] at H; have c10b0 := decide_eq_false c10; clear c10; obtain rfl := Option.some.inj H; go_wp2
       go_ret
       exact ⟨wQ, bE⟩

def spec_pgTurn.f (a0_0 : Int) (a0_1 : Int) (a1_0 : Int) (a1_1 : Int) (a2_0 : Int) (a2_1 : Int) : Option (Int) := some (wrap64 ((wrap64 ((wrap64 (a1_0 - a0_0)) * (wrap64 (a2_1 - a0_1)))) - (wrap64 ((wrap64 (a1_1 - a0_1)) * (wrap64 (a2_0 - a0_0))))))
set_option maxHeartbeats 8000000 in
set_option maxRecDepth 100000 in
theorem spec_pgTurn.calls (a0_0 : Int) (a0_1 : Int) (a1_0 : Int) (a1_1 : Int) (a2_0 : Int) (a2_1 : Int) (r : Int) (w : World) (h : spec_pgTurn.f a0_0 a0_1 a1_0 a1_1 a2_0 a2_1 = some r) :
  Calls Try.prog 80 #[.agg #[.int .i64 a0_0, .int .i64 a0_1], .agg #[.int .i64 a1_0, .int .i64 a1_1], .agg #[.int .i64 a2_0, .int .i64 a2_1]] w fun e w' => e = .returned (.int .i64 r) ∧ Below w.heap.size w w' := by
 have hu41 := Try.underlying41; have HB := aM (Below.refl w.heap.size w)
 unfold spec_pgTurn.f at h; have H := h; clear h
 obtain rfl := Option.some.inj H
 go_enter Try.func80, Try.ntmps80
 go_wp2_with (first | ((with_reducible refine gate_dst (N := 3) rfl ?_); refine bV 3 (cs := #[.int .i64 a0_0, .int .i64 a0_1]) (t := 41) rfl rfl (by first | (go_simp; done) | (go_simp; rfl)) ?_; intro gb121 hg w4 hbox hb; have BK121 := hbox; have GW121 := gZ HB hg; have GE121 := gZ HB hg; replace HB := tB HB hb; clear hb hbox hg) | ((with_reducible refine gate_dst (N := 4) rfl ?_); refine bV 4 (cs := #[.int .i64 a1_0, .int .i64 a1_1]) (t := 41) rfl rfl (by first | (go_simp; done) | (go_simp; rfl)) ?_; intro gb122 hg w5 hbox hb; have BK122 := hbox; have GW122 := gZ HB hg; have GE122 := gZ HB hg; have NB121_122 := nG BK121 hg; have NB122_121 := nH BK121 hg; replace BK121 := bB BK121 hb; replace HB := tB HB hb; clear hb hbox hg) | ((with_reducible refine gate_dst (N := 5) rfl ?_); refine bV 5 (cs := #[.int .i64 a2_0, .int .i64 a2_1]) (t := 41) rfl rfl (by first | (go_simp; done) | (go_simp; rfl)) ?_; intro gb123 hg w6 hbox hb; have BK123 := hbox; have GW123 := gZ HB hg; have GE123 := gZ HB hg; have NB121_123 := nG BK121 hg; have NB123_121 := nH BK121 hg; have NB122_123 := nG BK122 hg; have NB123_122 := nH BK122 hg; replace BK121 := bB BK121 hb; replace BK122 := bB BK122 hb; replace HB := tB HB hb; clear hb hbox hg; have hnb7 := NB122_121.out; have hnc7 := NB121_122.out; have hnb8 := NB122_123.out; have hnc8 := NB123_122.out; have hcz9_0 := vZ0 BK122; have hcz9_1 := vZ1 BK122; have hfz9_0 := kF BK122.out 0; have hfz9_1 := kF BK122.out 1; have hnb10 := NB121_123.out; have hnc10 := NB123_121.out; have hcz11_0 := vZ0 BK121; have hcz11_1 := vZ1 BK121; have hfz11_0 := kF BK121.out 0; have hfz11_1 := kF BK121.out 1; have hcz12_0 := vZ0 BK123; have hcz12_1 := vZ1 BK123; have hfz12_0 := kF BK123.out 0; have hfz12_1 := kF BK123.out 1))
 go_ret
 exact ⟨wQ, bE⟩

def spec_l1Most.f (a0 : Int) (a1 : Int) : Option (Int) := if a0 > a1 then (some a0) else (some a1)
set_option maxHeartbeats 8000000 in
set_option maxRecDepth 100000 in
theorem spec_l1Most.calls (a0 : Int) (a1 : Int) (r : Int) (w : World) (h : spec_l1Most.f a0 a1 = some r) :
  Calls Try.prog 119 #[.int .i64 a0, .int .i64 a1] w fun e w' => e = .returned (.int .i64 r) ∧ Drawn0 w w' := by
 unfold spec_l1Most.f at h; have H := h; clear h
 by_cases c3 : a0 > a1
 ·rw [if_pos c3] at H; have c3b0 := dE c3; clear c3; obtain rfl := Option.some.inj H
  go_enter Try.func119, Try.ntmps119
  go_wp2
  go_ret
  exact ⟨eQ, dQ⟩
 ·rw [if_neg c3] at H; have c3b0 := decide_eq_false c3; clear c3; obtain rfl := Option.some.inj H
  go_enter Try.func119, Try.ntmps119
  go_wp2
  go_ret
  exact ⟨eQ, dQ⟩

def spec_l1Abs.f (a0 : Int) : Option (Int) := (spec_l1Most.f a0 (wrap64 (-a0))).bind fun t124 => (some t124)
set_option maxHeartbeats 8000000 in
set_option maxRecDepth 100000 in
theorem spec_l1Abs.calls (a0 : Int) (r : Int) (w : World) (h : spec_l1Abs.f a0 = some r) :
  Calls Try.prog 111 #[.int .i64 a0] w fun e w' => e = .returned (.int .i64 r) ∧ Drawn0 w w' := by
 unfold spec_l1Abs.f at h; have H := h; clear h
 replace H := bS H; obtain ⟨t124, A2, H⟩ := H; obtain rfl := Option.some.inj H
 go_enter Try.func111, Try.ntmps111
 go_wp2_with (first | ((with_reducible refine gC (f := 119) rfl ?_); refine goesL_ (some 6) rfl rfl Try.func119 kR rfl #[.int .i64 a0, .int .i64 (wrap64 (-a0))] rfl sQ ?_; (with_reducible refine (spec_l1Most.calls a0 (wrap64 (-a0)) t124 _ A2.out).mono ?_); rintro e w' ⟨rfl, ⟨nd, rfl⟩⟩; refine ⟨_, rfl, ?_⟩))
 go_ret
 exact ⟨eQ, dQ⟩

def spec_bdFar.f (a0_0 : Int) (a0_1 : Int) (a1_0 : Int) (a1_1 : Int) : Option (Int) := some (wrap64 ((wrap64 ((wrap64 (a0_0 - a1_0)) * (wrap64 (a0_0 - a1_0)))) + (wrap64 ((wrap64 (a0_1 - a1_1)) * (wrap64 (a0_1 - a1_1))))))
set_option maxHeartbeats 8000000 in
set_option maxRecDepth 100000 in
theorem spec_bdFar.calls (a0_0 : Int) (a0_1 : Int) (a1_0 : Int) (a1_1 : Int) (r : Int) (w : World) (h : spec_bdFar.f a0_0 a0_1 a1_0 a1_1 = some r) :
  Calls Try.prog 112 #[.agg #[.int .i64 a0_0, .int .i64 a0_1], .agg #[.int .i64 a1_0, .int .i64 a1_1]] w fun e w' => e = .returned (.int .i64 r) ∧ Below w.heap.size w w' := by
 have hu41 := Try.underlying41; have HB := aM (Below.refl w.heap.size w)
 unfold spec_bdFar.f at h; have H := h; clear h
 obtain rfl := Option.some.inj H
 go_enter Try.func112, Try.ntmps112
 go_wp2_with (first | ((with_reducible refine gate_dst (N := 2) rfl ?_); refine bV 2 (cs := #[.int .i64 a0_0, .int .i64 a0_1]) (t := 41) rfl rfl (by first | (go_simp; done) | (go_simp; rfl)) ?_; intro gb125 hg w3 hbox hb; have BK125 := hbox; have GW125 := gZ HB hg; have GE125 := gZ HB hg; replace HB := tB HB hb; clear hb hbox hg) | ((with_reducible refine gate_dst (N := 3) rfl ?_); refine bV 3 (cs := #[.int .i64 a1_0, .int .i64 a1_1]) (t := 41) rfl rfl (by first | (go_simp; done) | (go_simp; rfl)) ?_; intro gb126 hg w4 hbox hb; have BK126 := hbox; have GW126 := gZ HB hg; have GE126 := gZ HB hg; have NB125_126 := nG BK125 hg; have NB126_125 := nH BK125 hg; replace BK125 := bB BK125 hb; replace HB := tB HB hb; clear hb hbox hg; have hnb5 := NB125_126.out; have hnc5 := NB126_125.out; have hcz6_0 := vZ0 BK125; have hcz6_1 := vZ1 BK125; have hfz6_0 := kF BK125.out 0; have hfz6_1 := kF BK125.out 1; have hcz7_0 := vZ0 BK126; have hcz7_1 := vZ1 BK126; have hfz7_0 := kF BK126.out 0; have hfz7_1 := kF BK126.out 1))
 go_ret
 exact ⟨wQ, bE⟩

def spec_pgCommon.l0 : Nat → Int → Int → Option (Int)
 | 0, _, _ => none
 | k + 1, x0, x1 => if x1 > 0 then (if x1 = 0 then (none) else (spec_pgCommon.l0 k x1 (Int.tmod x0 x1))) else (some x0)
def spec_pgCommon.f (k : Nat) (a0 : Int) (a1 : Int) : Option (Int) := (spec_l1Abs.f a0).bind fun t127 => ((spec_l1Abs.f a1).bind fun t128 => (spec_pgCommon.l0 k t127 t128))
theorem spec_pgCommon.mono_l : ∀ k, (∀ y0 y1, LeO (spec_pgCommon.l0 k y0 y1) (spec_pgCommon.l0 (k + 1) y0 y1))
 | 0 => fun _ _ r h => by simp [spec_pgCommon.l0] at h
 | k + 1 => by
  have ih0 := spec_pgCommon.mono_l k
  ·intro y0 y1
   unfold spec_pgCommon.l0
   repeat' first
   | (with_reducible exact ih0 _ _)
   | (with_reducible exact LeO.refl _)
   | (with_reducible exact LeO.none _)
   | (with_reducible refine LeO.ite ?_ ?_)
   | (with_reducible refine LeO.bind ?_ (fun _ => ?_))
   | exact ih0 _ _
   | exact LeO.none _
   | refine LeO.ite ?_ ?_
   | refine LeO.bind ?_ (fun _ => ?_)
theorem spec_pgCommon.mono : ∀ a0 a1 k, LeO (spec_pgCommon.f k a0 a1) (spec_pgCommon.f (k + 1) a0 a1) := by
 intro a0 a1 k
 have ih0 := spec_pgCommon.mono_l k
 unfold spec_pgCommon.f
 repeat' first | (with_reducible exact ih0 _ _) | (with_reducible exact LeO.refl _) | (with_reducible exact LeO.none _) | (with_reducible refine LeO.ite ?_ ?_) | (with_reducible refine LeO.bind ?_ (fun _ => ?_)) | exact ih0 _ _ | exact LeO.none _ | refine LeO.ite ?_ ?_ | refine LeO.bind ?_ (fun _ => ?_)
set_option maxHeartbeats 8000000 in
set_option maxRecDepth 100000 in
theorem spec_pgCommon.calls (k : Nat) (a0 : Int) (a1 : Int) (r : Int) (w : World) (h : spec_pgCommon.f k a0 a1 = some r) :
  Calls Try.prog 120 #[.int .i64 a0, .int .i64 a1] w fun e w' => e = .returned (.int .i64 r) ∧ Drawn0 w w' := by
 unfold spec_pgCommon.f at h; have H := h; clear h
 replace H := bS H; obtain ⟨t127, A3, H⟩ := H; replace H := bS H; obtain ⟨t128, A4, H⟩ := H; have H' := aM H; clear H
 go_enter Try.func120, Try.ntmps120
 go_wp2_with (first | (go_at_call 111; (with_reducible refine (spec_l1Abs.calls a0 t127 _ A3.out).mono ?_); rintro e w' ⟨rfl, ⟨nd, rfl⟩⟩; (try first | exact ⟨rfl, _, World.drewN_drewN _ _ _⟩ | exact ⟨rfl, _, Eq.trans (World.drewN_drewN _ _ _) (congrArg (World.drewN _) (Nat.add_assoc _ _ _))⟩)) | (go_at_call 111; (with_reducible refine (spec_l1Abs.calls a1 t128 _ A4.out).mono ?_); rintro e w' ⟨rfl, ⟨nd, rfl⟩⟩; (try first | exact ⟨rfl, _, World.drewN_drewN _ _ _⟩ | exact ⟨rfl, _, Eq.trans (World.drewN_drewN _ _ _) (congrArg (World.drewN _) (Nat.add_assoc _ _ _))⟩)))
 repeat (go_quiet (first | (go_at_call 111; (with_reducible refine (spec_l1Abs.calls a0 t127 _ A3.out).mono ?_); rintro e w' ⟨rfl, ⟨nd, rfl⟩⟩; (try first | exact ⟨rfl, _, World.drewN_drewN _ _ _⟩ | exact ⟨rfl, _, Eq.trans (World.drewN_drewN _ _ _) (congrArg (World.drewN _) (Nat.add_assoc _ _ _))⟩)) | (go_at_call 111; (with_reducible refine (spec_l1Abs.calls a1 t128 _ A4.out).mono ?_); rintro e w' ⟨rfl, ⟨nd, rfl⟩⟩; (try first | exact ⟨rfl, _, World.drewN_drewN _ _ _⟩ | exact ⟨rfl, _, Eq.trans (World.drewN_drewN _ _ _) (congrArg (World.drewN _) (Nat.add_assoc _ _ _))⟩))); try go_wp2_with (first | (go_at_call 111; (with_reducible refine (spec_l1Abs.calls a0 t127 _ A3.out).mono ?_); rintro e w' ⟨rfl, ⟨nd, rfl⟩⟩; (try first | exact ⟨rfl, _, World.drewN_drewN _ _ _⟩ | exact ⟨rfl, _, Eq.trans (World.drewN_drewN _ _ _) (congrArg (World.drewN _) (Nat.add_assoc _ _ _))⟩)) | (go_at_call 111; (with_reducible refine (spec_l1Abs.calls a1 t128 _ A4.out).mono ?_); rintro e w' ⟨rfl, ⟨nd, rfl⟩⟩; (try first | exact ⟨rfl, _, World.drewN_drewN _ _ _⟩ | exact ⟨rfl, _, Eq.trans (World.drewN_drewN _ _ _) (congrArg (World.drewN _) (Nat.add_assoc _ _ _))⟩))))
 go_loopg [0, 1] k (fun kq v0 v1 w' => ∃ (x0_1 : Int) (x1_1 : Int), v0 = .int .i64 x0_1 ∧ v1 = .int .i64 x1_1 ∧ Aside0 (spec_pgCommon.l0 kq x0_1 x1_1 = some r) ∧ Aside0 (kq ≤ k) ∧ Drawn0 w w')
 case atStart => exact ⟨(t127), (t128), eQ, eQ, H', ⟨Nat.le_refl _⟩, dQ⟩
 case round =>
  clear H'; obtain ⟨x0_1, x1_1, rfl, rfl, HA, HK1, ⟨m1, rfl⟩⟩ := hrel
  cases gk with
  | zero => exact absurd HA.out (by simp [spec_pgCommon.l0])
  | succ k1 =>
   have H := HA.out; clear HA
   simp only [spec_pgCommon.l0] at H
   by_cases c5 : x1_1 > 0
   ·rw [if_pos c5] at H; have c5b0 := dE c5; clear c5; replace H := iM H; obtain ⟨c6, H⟩ := H; have c6b0 : (x1_1 == 0) = false := beq_eq_false_iff_ne.mpr c6; have c6b1 : (x1_1 != 0) = true := bne_iff_ne.mpr c6; have H' := aM H; clear H; go_wp2
    repeat (go_quiet (fail); try go_wp2)
    go_roundg k1
    case measure => have := HK1.out; omega
    case rel => exact ⟨(x1_1), (Int.tmod x0_1 x1_1), eQ, eQ, H', ⟨by have := HK1.out; omega⟩, dQ⟩
   ·rw [if_neg c5] at H; have c5b0 := decide_eq_false c5; clear c5; obtain rfl := Option.some.inj H; go_wp2
    repeat (go_quiet (fail); try go_wp2)
    go_ret
    exact ⟨eQ, dQ⟩

def spec_pgStep.f (k : Nat) (a0_0 : Int) (a0_1 : Int) (a1_0 : Int) (a1_1 : Int) : Option (Int) := (spec_pgCommon.f k (wrap64 (a0_0 - a1_0)) (wrap64 (a0_1 - a1_1))).bind fun t131 => (some t131)
theorem spec_pgStep.mono : ∀ a0 a1 a2 a3 k, LeO (spec_pgStep.f k a0 a1 a2 a3) (spec_pgStep.f (k + 1) a0 a1 a2 a3) := by
 intro a0 a1 a2 a3 k
 unfold spec_pgStep.f
 repeat' first | (with_reducible exact spec_pgCommon.mono _ _ _) | (with_reducible exact LeO.refl _) | (with_reducible exact LeO.none _) | (with_reducible refine LeO.ite ?_ ?_) | (with_reducible refine LeO.bind ?_ (fun _ => ?_)) | exact spec_pgCommon.mono _ _ _ | exact LeO.none _ | refine LeO.ite ?_ ?_ | refine LeO.bind ?_ (fun _ => ?_)
set_option maxHeartbeats 8000000 in
set_option maxRecDepth 100000 in
theorem spec_pgStep.calls (k : Nat) (a0_0 : Int) (a0_1 : Int) (a1_0 : Int) (a1_1 : Int) (r : Int) (w : World) (h : spec_pgStep.f k a0_0 a0_1 a1_0 a1_1 = some r) :
  Calls Try.prog 113 #[.agg #[.int .i64 a0_0, .int .i64 a0_1], .agg #[.int .i64 a1_0, .int .i64 a1_1]] w fun e w' => e = .returned (.int .i64 r) ∧ Below w.heap.size w w' := by
 have hu41 := Try.underlying41; have HB := aM (Below.refl w.heap.size w)
 unfold spec_pgStep.f at h; have H := h; clear h
 replace H := bS H; obtain ⟨t131, A3, H⟩ := H; obtain rfl := Option.some.inj H
 go_enter Try.func113, Try.ntmps113
 go_wp2_with (first | ((with_reducible refine gate_dst (N := 2) rfl ?_); refine bV 2 (cs := #[.int .i64 a0_0, .int .i64 a0_1]) (t := 41) rfl rfl (by first | (go_simp; done) | (go_simp; rfl)) ?_; intro gb129 hg w4 hbox hb; have BK129 := hbox; have GW129 := gZ HB hg; have GE129 := gZ HB hg; replace HB := tB HB hb; clear hb hbox hg) | ((with_reducible refine gate_dst (N := 3) rfl ?_); refine bV 3 (cs := #[.int .i64 a1_0, .int .i64 a1_1]) (t := 41) rfl rfl (by first | (go_simp; done) | (go_simp; rfl)) ?_; intro gb130 hg w5 hbox hb; have BK130 := hbox; have GW130 := gZ HB hg; have GE130 := gZ HB hg; have NB129_130 := nG BK129 hg; have NB130_129 := nH BK129 hg; replace BK129 := bB BK129 hb; replace HB := tB HB hb; clear hb hbox hg; have hnb6 := NB129_130.out; have hnc6 := NB130_129.out; have hcz7_0 := vZ0 BK129; have hcz7_1 := vZ1 BK129; have hfz7_0 := kF BK129.out 0; have hfz7_1 := kF BK129.out 1; have hcz8_0 := vZ0 BK130; have hcz8_1 := vZ1 BK130; have hfz8_0 := kF BK130.out 0; have hfz8_1 := kF BK130.out 1) | ((with_reducible refine gC (f := 120) rfl ?_); refine goesL_ (some 15) rfl rfl Try.func120 kR rfl #[.int .i64 (wrap64 (a0_0 - a1_0)), .int .i64 (wrap64 (a0_1 - a1_1))] rfl sQ ?_; (with_reducible refine (spec_pgCommon.calls k (wrap64 (a0_0 - a1_0)) (wrap64 (a0_1 - a1_1)) t131 _ A3.out).mono ?_); rintro e w' ⟨rfl, ⟨nd, rfl⟩⟩; refine ⟨_, rfl, ?_⟩))
 go_ret
 exact ⟨wQ, bE⟩

def spec_pzValue.f (k : Nat) (a0 : Int) (a1_0 : Int) (a1_1 : Int) (a2_0 : Int) (a2_1 : Int) : Option (Int) := if a0 = 0 then (some a2_0) else (if a0 = 1 then (some a2_1) else (if a0 = 2 then (some (wrap64 (a2_0 + a2_1))) else (if a0 = 3 then ((spec_pgTurn.f 0 0 a1_0 a1_1 a2_0 a2_1).bind fun t134 => ((spec_l1Abs.f t134).bind fun t135 => (some t135))) else (if a0 = 4 then ((spec_bdFar.f a1_0 a1_1 a2_0 a2_1).bind fun t136 => (some t136)) else ((spec_pgStep.f k a1_0 a1_1 a2_0 a2_1).bind fun t137 => (if t137 < 2 then (some 1) else (some 0)))))))
theorem spec_pzValue.mono : ∀ a0 a1 a2 a3 a4 k, LeO (spec_pzValue.f k a0 a1 a2 a3 a4) (spec_pzValue.f (k + 1) a0 a1 a2 a3 a4) := by
 intro a0 a1 a2 a3 a4 k
 unfold spec_pzValue.f
 repeat' first | (with_reducible exact spec_pgStep.mono _ _ _ _ _) | (with_reducible exact LeO.refl _) | (with_reducible exact LeO.none _) | (with_reducible refine LeO.ite ?_ ?_) | (with_reducible refine LeO.bind ?_ (fun _ => ?_)) | exact spec_pgStep.mono _ _ _ _ _ | exact LeO.none _ | refine LeO.ite ?_ ?_ | refine LeO.bind ?_ (fun _ => ?_)
set_option maxHeartbeats 8000000 in
set_option maxRecDepth 100000 in
theorem spec_pzValue.calls (k : Nat) (a0 : Int) (a1_0 : Int) (a1_1 : Int) (a2_0 : Int) (a2_1 : Int) (r : Int) (w : World) (h : spec_pzValue.f k a0 a1_0 a1_1 a2_0 a2_1 = some r) :
  Calls Try.prog 94 #[.int .i64 a0, .agg #[.int .i64 a1_0, .int .i64 a1_1], .agg #[.int .i64 a2_0, .int .i64 a2_1]] w fun e w' => e = .returned (.int .i64 r) ∧ Below w.heap.size w w' := by
 have hu41 := Try.underlying41; have HB := aM (Below.refl w.heap.size w)
 unfold spec_pzValue.f at h; have H := h; clear h
 by_cases c4 : a0 = 0
 ·rw [if_pos c4] at H; have c4b0 : (a0 == 0) = true := beq_iff_eq.mpr c4; have c4b1 : (a0 != 0) = false := bne_eq_false_iff_eq.mpr c4; clear c4; obtain rfl := Option.some.inj H
  go_enter Try.func94, Try.ntmps94
  go_wp2_with (first | ((with_reducible refine gate_dst (N := 4) rfl ?_); refine bV 4 (cs := #[.int .i64 a1_0, .int .i64 a1_1]) (t := 41) rfl rfl (by first | (go_simp; done) | (go_simp; rfl)) ?_; intro gb132 hg w5 hbox hb; have BK132 := hbox; have GW132 := gZ HB hg; have GE132 := gZ HB hg; replace HB := tB HB hb; clear hb hbox hg) | ((with_reducible refine gate_dst (N := 5) rfl ?_); refine bV 5 (cs := #[.int .i64 a2_0, .int .i64 a2_1]) (t := 41) rfl rfl (by first | (go_simp; done) | (go_simp; rfl)) ?_; intro gb133 hg w6 hbox hb; have BK133 := hbox; have GW133 := gZ HB hg; have GE133 := gZ HB hg; have NB132_133 := nG BK132 hg; have NB133_132 := nH BK132 hg; replace BK132 := bB BK132 hb; replace HB := tB HB hb; clear hb hbox hg; have hnb7 := NB133_132.out; have hnc7 := NB132_133.out; have hcz8_0 := vZ0 BK133; have hcz8_1 := vZ1 BK133; have hfz8_0 := kF BK133.out 0; have hfz8_1 := kF BK133.out 1))
  go_ret
  exact ⟨wQ, bE⟩
 ·rw [if_neg c4] at H; have c4b0 : (a0 == 0) = false := beq_eq_false_iff_ne.mpr c4; have c4b1 : (a0 != 0) = true := bne_iff_ne.mpr c4
  by_cases c9 : a0 = 1
  ·rw [if_pos c9] at H; have c9b0 : (a0 == 1) = true := beq_iff_eq.mpr c9; have c9b1 : (a0 != 1) = false := bne_eq_false_iff_eq.mpr c9; clear c9; obtain rfl := Option.some.inj H
   go_enter Try.func94, Try.ntmps94
   go_wp2_with (first | ((with_reducible refine gate_dst (N := 4) rfl ?_); refine bV 4 (cs := #[.int .i64 a1_0, .int .i64 a1_1]) (t := 41) rfl rfl (by first | (go_simp; done) | (go_simp; rfl)) ?_; intro gb132 hg w10 hbox hb; have BK132 := hbox; have GW132 := gZ HB hg; have GE132 := gZ HB hg; replace HB := tB HB hb; clear hb hbox hg) | ((with_reducible refine gate_dst (N := 5) rfl ?_); refine bV 5 (cs := #[.int .i64 a2_0, .int .i64 a2_1]) (t := 41) rfl rfl (by first | (go_simp; done) | (go_simp; rfl)) ?_; intro gb133 hg w11 hbox hb; have BK133 := hbox; have GW133 := gZ HB hg; have GE133 := gZ HB hg; have NB132_133 := nG BK132 hg; have NB133_132 := nH BK132 hg; replace BK132 := bB BK132 hb; replace HB := tB HB hb; clear hb hbox hg; have hnb12 := NB133_132.out; have hnc12 := NB132_133.out; have hcz13_0 := vZ0 BK133; have hcz13_1 := vZ1 BK133; have hfz13_0 := kF BK133.out 0; have hfz13_1 := kF BK133.out 1))
   go_ret
   exact ⟨wQ, bE⟩
  ·rw [if_neg c9] at H; have c9b0 : (a0 == 1) = false := beq_eq_false_iff_ne.mpr c9; have c9b1 : (a0 != 1) = true := bne_iff_ne.mpr c9
   by_cases c14 : a0 = 2
   ·rw [if_pos c14] at H; have c14b0 : (a0 == 2) = true := beq_iff_eq.mpr c14; have c14b1 : (a0 != 2) = false := bne_eq_false_iff_eq.mpr c14; clear c14; obtain rfl := Option.some.inj H
    go_enter Try.func94, Try.ntmps94
    go_wp2_with (first | ((with_reducible refine gate_dst (N := 4) rfl ?_); refine bV 4 (cs := #[.int .i64 a1_0, .int .i64 a1_1]) (t := 41) rfl rfl (by first | (go_simp; done) | (go_simp; rfl)) ?_; intro gb132 hg w15 hbox hb; have BK132 := hbox; have GW132 := gZ HB hg; have GE132 := gZ HB hg; replace HB := tB HB hb; clear hb hbox hg) | ((with_reducible refine gate_dst (N := 5) rfl ?_); refine bV 5 (cs := #[.int .i64 a2_0, .int .i64 a2_1]) (t := 41) rfl rfl (by first | (go_simp; done) | (go_simp; rfl)) ?_; intro gb133 hg w16 hbox hb; have BK133 := hbox; have GW133 := gZ HB hg; have GE133 := gZ HB hg; have NB132_133 := nG BK132 hg; have NB133_132 := nH BK132 hg; replace BK132 := bB BK132 hb; replace HB := tB HB hb; clear hb hbox hg; have hnb17 := NB133_132.out; have hnc17 := NB132_133.out; have hcz18_0 := vZ0 BK133; have hcz18_1 := vZ1 BK133; have hfz18_0 := kF BK133.out 0; have hfz18_1 := kF BK133.out 1))
    go_ret
    exact ⟨wQ, bE⟩
   ·rw [if_neg c14] at H; have c14b0 : (a0 == 2) = false := beq_eq_false_iff_ne.mpr c14; have c14b1 : (a0 != 2) = true := bne_iff_ne.mpr c14
    by_cases c19 : a0 = 3
    ·rw [if_pos c19] at H; have c19b0 : (a0 == 3) = true := beq_iff_eq.mpr c19; have c19b1 : (a0 != 3) = false := bne_eq_false_iff_eq.mpr c19; clear c19; replace H := bS H; obtain ⟨t134, A20, H⟩ := H; replace H := bS H; obtain ⟨t135, A21, H⟩ := H; obtain rfl := Option.some.inj H
     go_enter Try.func94, Try.ntmps94
     go_wp2_with (first | ((with_reducible refine gate_dst (N := 4) rfl ?_); refine bV 4 (cs := #[.int .i64 a1_0, .int .i64 a1_1]) (t := 41) rfl rfl (by first | (go_simp; done) | (go_simp; rfl)) ?_; intro gb132 hg w22 hbox hb; have BK132 := hbox; have GW132 := gZ HB hg; have GE132 := gZ HB hg; replace HB := tB HB hb; clear hb hbox hg) | ((with_reducible refine gate_dst (N := 5) rfl ?_); refine bV 5 (cs := #[.int .i64 a2_0, .int .i64 a2_1]) (t := 41) rfl rfl (by first | (go_simp; done) | (go_simp; rfl)) ?_; intro gb133 hg w23 hbox hb; have BK133 := hbox; have GW133 := gZ HB hg; have GE133 := gZ HB hg; have NB132_133 := nG BK132 hg; have NB133_132 := nH BK132 hg; replace BK132 := bB BK132 hb; replace HB := tB HB hb; clear hb hbox hg; have hnb24 := NB132_133.out; have hnc24 := NB133_132.out; have hcz25_0 := vZ0 BK132; have hcz25_1 := vZ1 BK132; have hfz25_0 := kF BK132.out 0; have hfz25_1 := kF BK132.out 1; have hcz26_0 := vZ0 BK133; have hcz26_1 := vZ1 BK133; have hfz26_0 := kF BK133.out 0; have hfz26_1 := kF BK133.out 1) | ((with_reducible refine gC (f := 80) rfl ?_); refine goesL_ (some 28) rfl rfl Try.func80 kR rfl #[.agg #[.int .i64 0, .int .i64 0], .agg #[.int .i64 a1_0, .int .i64 a1_1], .agg #[.int .i64 a2_0, .int .i64 a2_1]] rfl sQ ?_; (with_reducible refine (spec_pgTurn.calls 0 0 a1_0 a1_1 a2_0 a2_1 t134 _ A20.out).mono ?_); rintro e w27 ⟨rfl, hb⟩; refine ⟨_, rfl, ?_⟩; replace BK132 := bB BK132 hb; replace BK133 := bB BK133 hb; replace HB := tB HB hb; (try clear hb); (try clear hb2); (try clear hk); (try clear hi)) | ((with_reducible refine gC (f := 111) rfl ?_); refine goesL_ (some 29) rfl rfl Try.func111 kR rfl #[.int .i64 t134] rfl sQ ?_; (with_reducible refine (spec_l1Abs.calls t134 t135 _ A21.out).mono ?_); rintro e w' ⟨rfl, ⟨nd, rfl⟩⟩; refine ⟨_, rfl, ?_⟩))
     go_ret
     exact ⟨wQ, bE⟩
    ·rw [if_neg c19] at H; have c19b0 : (a0 == 3) = false := beq_eq_false_iff_ne.mpr c19; have c19b1 : (a0 != 3) = true := bne_iff_ne.mpr c19
     by_cases c28 : a0 = 4
     ·rw [if_pos c28] at H; have c28b0 : (a0 == 4) = true := beq_iff_eq.mpr c28; have c28b1 : (a0 != 4) = false := bne_eq_false_iff_eq.mpr c28; clear c28; replace H := bS H; obtain ⟨t136, A29, H⟩ := H; obtain rfl := Option.some.inj H
      go_enter Try.func94, Try.ntmps94
      go_wp2_with (first | ((with_reducible refine gate_dst (N := 4) rfl ?_); refine bV 4 (cs := #[.int .i64 a1_0, .int .i64 a1_1]) (t := 41) rfl rfl (by first | (go_simp; done) | (go_simp; rfl)) ?_; intro gb132 hg w30 hbox hb; have BK132 := hbox; have GW132 := gZ HB hg; have GE132 := gZ HB hg; replace HB := tB HB hb; clear hb hbox hg) | ((with_reducible refine gate_dst (N := 5) rfl ?_); refine bV 5 (cs := #[.int .i64 a2_0, .int .i64 a2_1]) (t := 41) rfl rfl (by first | (go_simp; done) | (go_simp; rfl)) ?_; intro gb133 hg w31 hbox hb; have BK133 := hbox; have GW133 := gZ HB hg; have GE133 := gZ HB hg; have NB132_133 := nG BK132 hg; have NB133_132 := nH BK132 hg; replace BK132 := bB BK132 hb; replace HB := tB HB hb; clear hb hbox hg; have hnb32 := NB132_133.out; have hnc32 := NB133_132.out; have hcz33_0 := vZ0 BK132; have hcz33_1 := vZ1 BK132; have hfz33_0 := kF BK132.out 0; have hfz33_1 := kF BK132.out 1; have hcz34_0 := vZ0 BK133; have hcz34_1 := vZ1 BK133; have hfz34_0 := kF BK133.out 0; have hfz34_1 := kF BK133.out 1) | ((with_reducible refine gC (f := 112) rfl ?_); refine goesL_ (some 34) rfl rfl Try.func112 kR rfl #[.agg #[.int .i64 a1_0, .int .i64 a1_1], .agg #[.int .i64 a2_0, .int .i64 a2_1]] rfl sQ ?_; (with_reducible refine (spec_bdFar.calls a1_0 a1_1 a2_0 a2_1 t136 _ A29.out).mono ?_); rintro e w35 ⟨rfl, hb⟩; refine ⟨_, rfl, ?_⟩; replace BK132 := bB BK132 hb; replace BK133 := bB BK133 hb; replace HB := tB HB hb; (try clear hb); (try clear hb2); (try clear hk); (try clear hi)))
      go_ret
      exact ⟨wQ, bE⟩
     ·rw [if_neg c28] at H; have c28b0 : (a0 == 4) = false := beq_eq_false_iff_ne.mpr c28; have c28b1 : (a0 != 4) = true := bne_iff_ne.mpr c28; replace H := bS H; obtain ⟨t137, A36, H⟩ := H
      by_cases c37 : t137 < 2
      ·rw [if_pos c37] at H; have c37b0 := dE c37; clear c37; obtain rfl := Option.some.inj H
       go_enter Try.func94, Try.ntmps94
       go_wp2_with (first | ((with_reducible refine gate_dst (N := 4) rfl ?_); refine bV 4 (cs := #[.int .i64 a1_0, .int .i64 a1_1]) (t := 41) rfl rfl (by first | (go_simp; done) | (go_simp; rfl)) ?_; intro gb132 hg w38 hbox hb; have BK132 := hbox; have GW132 := gZ HB hg; have GE132 := gZ HB hg; replace HB := tB HB hb; clear hb hbox hg) | ((with_reducible refine gate_dst (N := 5) rfl ?_); refine bV 5 (cs := #[.int .i64 a2_0, .int .i64 a2_1]) (t := 41) rfl rfl (by first | (go_simp; done) | (go_simp; rfl)) ?_; intro gb133 hg w39 hbox hb; have BK133 := hbox; have GW133 := gZ HB hg; have GE133 := gZ HB hg; have NB132_133 := nG BK132 hg; have NB133_132 := nH BK132 hg; replace BK132 := bB BK132 hb; replace HB := tB HB hb; clear hb hbox hg; have hnb40 := NB132_133.out; have hnc40 := NB133_132.out; have hcz41_0 := vZ0 BK132; have hcz41_1 := vZ1 BK132; have hfz41_0 := kF BK132.out 0; have hfz41_1 := kF BK132.out 1; have hcz42_0 := vZ0 BK133; have hcz42_1 := vZ1 BK133; have hfz42_0 := kF BK133.out 0; have hfz42_1 := kF BK133.out 1) | ((with_reducible refine gC (f := 113) rfl ?_); refine goesL_ (some 37) rfl rfl Try.func113 kR rfl #[.agg #[.int .i64 a1_0, .int .i64 a1_1], .agg #[.int .i64 a2_0, .int .i64 a2_1]] rfl sQ ?_; (with_reducible refine (spec_pgStep.calls k a1_0 a1_1 a2_0 a2_1 t137 _ A36.out).mono ?_); rintro e w43 ⟨rfl, hb⟩; refine ⟨_, rfl, ?_⟩; replace BK132 := bB BK132 hb; replace BK133 := bB BK133 hb; replace HB := tB HB hb; (try clear hb); (try clear hb2); (try clear hk); (try clear hi)))
       go_ret
       exact ⟨wQ, bE⟩
      ·rw [if_neg c37] at H; have c37b0 := decide_eq_false c37; clear c37; obtain rfl := Option.some.inj H
       go_enter Try.func94, Try.ntmps94
       go_wp2_with (first | ((with_reducible refine gate_dst (N := 4) rfl ?_); refine bV 4 (cs := #[.int .i64 a1_0, .int .i64 a1_1]) (t := 41) rfl rfl (by first | (go_simp; done) | (go_simp; rfl)) ?_; intro gb132 hg w44 hbox hb; have BK132 := hbox; have GW132 := gZ HB hg; have GE132 := gZ HB hg; replace HB := tB HB hb; clear hb hbox hg) | ((with_reducible refine gate_dst (N := 5) rfl ?_); refine bV 5 (cs := #[.int .i64 a2_0, .int .i64 a2_1]) (t := 41) rfl rfl (by first | (go_simp; done) | (go_simp; rfl)) ?_; intro gb133 hg w45 hbox hb; have BK133 := hbox; have GW133 := gZ HB hg; have GE133 := gZ HB hg; have NB132_133 := nG BK132 hg; have NB133_132 := nH BK132 hg; replace BK132 := bB BK132 hb; replace HB := tB HB hb; clear hb hbox hg; have hnb46 := NB132_133.out; have hnc46 := NB133_132.out; have hcz47_0 := vZ0 BK132; have hcz47_1 := vZ1 BK132; have hfz47_0 := kF BK132.out 0; have hfz47_1 := kF BK132.out 1; have hcz48_0 := vZ0 BK133; have hcz48_1 := vZ1 BK133; have hfz48_0 := kF BK133.out 0; have hfz48_1 := kF BK133.out 1) | ((with_reducible refine gC (f := 113) rfl ?_); refine goesL_ (some 37) rfl rfl Try.func113 kR rfl #[.agg #[.int .i64 a1_0, .int .i64 a1_1], .agg #[.int .i64 a2_0, .int .i64 a2_1]] rfl sQ ?_; (with_reducible refine (spec_pgStep.calls k a1_0 a1_1 a2_0 a2_1 t137 _ A36.out).mono ?_); rintro e w49 ⟨rfl, hb⟩; refine ⟨_, rfl, ?_⟩; replace BK132 := bB BK132 hb; replace BK133 := bB BK133 hb; replace HB := tB HB hb; (try clear hb); (try clear hb2); (try clear hk); (try clear hi)))
       go_ret
       exact ⟨wQ, bE⟩

def spec_pzFits.f (k : Nat) (a0_0 : Int) (a0_1 : Int) (a0_2 : Int) (a0_3 : Int) (a1_0 : Int) (a1_1 : Int) : Option (Bool) := (spec_pzValue.f k a0_0 a0_1 a0_2 a1_0 a1_1).bind fun t140 => (if a0_0 < 3 then (some (t140 == a0_1)) else (some (t140 == a0_3)))
theorem spec_pzFits.mono : ∀ a0 a1 a2 a3 a4 a5 k, LeO (spec_pzFits.f k a0 a1 a2 a3 a4 a5) (spec_pzFits.f (k + 1) a0 a1 a2 a3 a4 a5) := by
 intro a0 a1 a2 a3 a4 a5 k
 unfold spec_pzFits.f
 repeat' first | (with_reducible exact spec_pzValue.mono _ _ _ _ _ _) | (with_reducible exact LeO.refl _) | (with_reducible exact LeO.none _) | (with_reducible refine LeO.ite ?_ ?_) | (with_reducible refine LeO.bind ?_ (fun _ => ?_)) | exact spec_pzValue.mono _ _ _ _ _ _ | exact LeO.none _ | refine LeO.ite ?_ ?_ | refine LeO.bind ?_ (fun _ => ?_)
set_option maxHeartbeats 8000000 in
set_option maxRecDepth 100000 in
theorem spec_pzFits.calls (k : Nat) (a0_0 : Int) (a0_1 : Int) (a0_2 : Int) (a0_3 : Int) (a1_0 : Int) (a1_1 : Int) (r : Bool) (w : World) (h : spec_pzFits.f k a0_0 a0_1 a0_2 a0_3 a1_0 a1_1 = some r) :
  Calls Try.prog 76 #[.agg #[.int .i64 a0_0, .int .i64 a0_1, .int .i64 a0_2, .int .i64 a0_3], .agg #[.int .i64 a1_0, .int .i64 a1_1]] w fun e w' => e = .returned (.bool r) ∧ Below w.heap.size w w' := by
 have hu48 := Try.underlying48; have hu41 := Try.underlying41; have HB := aM (Below.refl w.heap.size w)
 unfold spec_pzFits.f at h; have H := h; clear h
 replace H := bS H; obtain ⟨t140, A3, H⟩ := H
 by_cases c4 : a0_0 < 3
 ·rw [if_pos c4] at H; have c4b0 := dE c4; clear c4; obtain rfl := Option.some.inj H
  go_enter Try.func76, Try.ntmps76
  go_wp2_with (first | ((with_reducible refine gate_dst (N := 2) rfl ?_); refine bV 2 (cs := #[.int .i64 a0_0, .int .i64 a0_1, .int .i64 a0_2, .int .i64 a0_3]) (t := 48) rfl rfl (by first | (go_simp; done) | (go_simp; rfl)) ?_; intro gb138 hg w5 hbox hb; have BK138 := hbox; have GW138 := gZ HB hg; have GE138 := gZ HB hg; replace HB := tB HB hb; clear hb hbox hg) | ((with_reducible refine gate_dst (N := 3) rfl ?_); refine bV 3 (cs := #[.int .i64 a1_0, .int .i64 a1_1]) (t := 41) rfl rfl (by first | (go_simp; done) | (go_simp; rfl)) ?_; intro gb139 hg w6 hbox hb; have BK139 := hbox; have GW139 := gZ HB hg; have GE139 := gZ HB hg; have NB138_139 := nG BK138 hg; have NB139_138 := nH BK138 hg; replace BK138 := bB BK138 hb; replace HB := tB HB hb; clear hb hbox hg; have hnb7 := NB138_139.out; have hnc7 := NB139_138.out; have hcz8_0 := vZ0 BK138; have hcz8_1 := vZ1 BK138; have hcz8_2 := vZ2 BK138; have hcz8_3 := vZ3 BK138; have hfz8_0 := kF BK138.out 0; have hfz8_1 := kF BK138.out 1; have hfz8_2 := kF BK138.out 2; have hfz8_3 := kF BK138.out 3; have hcz9_0 := vZ0 BK139; have hcz9_1 := vZ1 BK139; have hfz9_0 := kF BK139.out 0; have hfz9_1 := kF BK139.out 1) | ((with_reducible refine gC (f := 94) rfl ?_); refine goesL_ (some 14) rfl rfl Try.func94 kR rfl #[.int .i64 a0_0, .agg #[.int .i64 a0_1, .int .i64 a0_2], .agg #[.int .i64 a1_0, .int .i64 a1_1]] rfl sQ ?_; (with_reducible refine (spec_pzValue.calls k a0_0 a0_1 a0_2 a1_0 a1_1 t140 _ A3.out).mono ?_); rintro e w10 ⟨rfl, hb⟩; refine ⟨_, rfl, ?_⟩; replace BK138 := bB BK138 hb; replace BK139 := bB BK139 hb; replace HB := tB HB hb; (try clear hb); (try clear hb2); (try clear hk); (try clear hi); have hcz11_0 := vZ0 BK138; have hcz11_1 := vZ1 BK138; have hcz11_2 := vZ2 BK138; have hcz11_3 := vZ3 BK138; have hfz11_0 := kF BK138.out 0; have hfz11_1 := kF BK138.out 1; have hfz11_2 := kF BK138.out 2; have hfz11_3 := kF BK138.out 3))
  go_ret
  exact ⟨wQ, bE⟩
 ·rw [if_neg c4] at H; have c4b0 := decide_eq_false c4; clear c4; obtain rfl := Option.some.inj H
  go_enter Try.func76, Try.ntmps76
  go_wp2_with (first | ((with_reducible refine gate_dst (N := 2) rfl ?_); refine bV 2 (cs := #[.int .i64 a0_0, .int .i64 a0_1, .int .i64 a0_2, .int .i64 a0_3]) (t := 48) rfl rfl (by first | (go_simp; done) | (go_simp; rfl)) ?_; intro gb138 hg w12 hbox hb; have BK138 := hbox; have GW138 := gZ HB hg; have GE138 := gZ HB hg; replace HB := tB HB hb; clear hb hbox hg) | ((with_reducible refine gate_dst (N := 3) rfl ?_); refine bV 3 (cs := #[.int .i64 a1_0, .int .i64 a1_1]) (t := 41) rfl rfl (by first | (go_simp; done) | (go_simp; rfl)) ?_; intro gb139 hg w13 hbox hb; have BK139 := hbox; have GW139 := gZ HB hg; have GE139 := gZ HB hg; have NB138_139 := nG BK138 hg; have NB139_138 := nH BK138 hg; replace BK138 := bB BK138 hb; replace HB := tB HB hb; clear hb hbox hg; have hnb14 := NB138_139.out; have hnc14 := NB139_138.out; have hcz15_0 := vZ0 BK138; have hcz15_1 := vZ1 BK138; have hcz15_2 := vZ2 BK138; have hcz15_3 := vZ3 BK138; have hfz15_0 := kF BK138.out 0; have hfz15_1 := kF BK138.out 1; have hfz15_2 := kF BK138.out 2; have hfz15_3 := kF BK138.out 3; have hcz16_0 := vZ0 BK139; have hcz16_1 := vZ1 BK139; have hfz16_0 := kF BK139.out 0; have hfz16_1 := kF BK139.out 1) | ((with_reducible refine gC (f := 94) rfl ?_); refine goesL_ (some 14) rfl rfl Try.func94 kR rfl #[.int .i64 a0_0, .agg #[.int .i64 a0_1, .int .i64 a0_2], .agg #[.int .i64 a1_0, .int .i64 a1_1]] rfl sQ ?_; (with_reducible refine (spec_pzValue.calls k a0_0 a0_1 a0_2 a1_0 a1_1 t140 _ A3.out).mono ?_); rintro e w17 ⟨rfl, hb⟩; refine ⟨_, rfl, ?_⟩; replace BK138 := bB BK138 hb; replace BK139 := bB BK139 hb; replace HB := tB HB hb; (try clear hb); (try clear hb2); (try clear hk); (try clear hi); have hcz18_0 := vZ0 BK138; have hcz18_1 := vZ1 BK138; have hcz18_2 := vZ2 BK138; have hcz18_3 := vZ3 BK138; have hfz18_0 := kF BK138.out 0; have hfz18_1 := kF BK138.out 1; have hfz18_2 := kF BK138.out 2; have hfz18_3 := kF BK138.out 3))
  go_ret
  exact ⟨wQ, bE⟩

end Go.Proofs.Ytoeclfihlhmnpaa.X
