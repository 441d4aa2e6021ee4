-- thin
-- short
-- compact
import Derived.Test.YtoeclfihlhmnpaaDoorXA
import Derived.Test.YtoeclfihlhmnpaaDoorX0
import Derived.Test.YtoeclfihlhmnpaaDoorX1
namespace Go.Proofs.YtoeclfihlhmnpaaDoor.X
open Go.RowKit Go.Proofs.YtoeclfihlhmnpaaDoor.XW Go.Proofs.YtoeclfihlhmnpaaDoorW.PrintWords Go.Proofs.YtoeclfihlhmnpaaDoorW.PrintLast Go.Proofs.YtoeclfihlhmnpaaDoorW.PrintMore
attribute [local go_sem] max2_int min2_int max_two min_two max_three min_three max_four min_four   -- for this text's walks alone
set_option linter.unusedVariables false
set_option linter.unusedSimpArgs false

mutual
def spec_pzGood.j0 : Nat → Bool → Int → List (S_impl_Clue) → Option (Bool)
 | 0, _, _, _ => none
 | k + 1, x14, x115000, x115001 => if x14 = true then (some false) else (spec_pzGood.l0 k x115001 (x115001.length : Int) 0 x115000 x115001)
def spec_pzGood.l0 : Nat → List (S_impl_Clue) → Int → Int → Int → List (S_impl_Clue) → Option (Bool)
 | 0, _, _, _, _, _ => none
 | k + 1, x16, x17, x18, x115000, x115001 => if x18 < x17 then (if 0 ≤ x18 then (if x18 < (x16.length : Int) then ((spec_pzClue.f k x115000 ((rd_impl_Clue x16 x18).f0) ((rd_impl_Clue x16 x18).f1) ((rd_impl_Clue x16 x18).f2) ((rd_impl_Clue x16 x18).f3)).bind fun t118 => (if t118 = true then (spec_pzGood.l0 k x16 x17 (wrap64 (x18 + 1)) x115000 x115001) else (some false))) else (none)) else (none)) else (some true)
end
def spec_pzGood.f (k : Nat) (a0_0 : Int) (l0_1 : List (S_impl_Clue)) : Option (Bool) := (spec_pzSide.f a0_0).bind fun t115 => (if t115 = true then (spec_pzGood.j0 k (decide ((l0_1.length : Int) > 6)) a0_0 l0_1) else (spec_pzGood.j0 k true a0_0 l0_1))
theorem spec_pzGood.mono_l : ∀ k, (∀ y0 y1 y2, LeO (spec_pzGood.j0 k y0 y1 y2) (spec_pzGood.j0 (k + 1) y0 y1 y2)) ∧ (∀ y0 y1 y2 y3 y4, LeO (spec_pzGood.l0 k y0 y1 y2 y3 y4) (spec_pzGood.l0 (k + 1) y0 y1 y2 y3 y4))
 | 0 => ⟨fun _ _ _ r h => by simp [spec_pzGood.j0] at h, fun _ _ _ _ _ r h => by simp [spec_pzGood.l0] at h⟩
 | k + 1 => by
  obtain ⟨ih0, ih1⟩ := spec_pzGood.mono_l k
  refine ⟨?_, ?_⟩ <;> intros <;> (first | unfold spec_pzGood.j0 | unfold spec_pzGood.l0) <;> repeat' first | (with_reducible exact ih0 _ _ _) | (with_reducible exact ih1 _ _ _ _ _) | (with_reducible exact spec_pzClue.mono _ _ _ _ _ _) | (with_reducible exact LeO.refl _) | (with_reducible exact LeO.none _) | (with_reducible refine LeO.ite ?_ ?_) | (with_reducible refine LeO.bind ?_ (fun _ => ?_)) | exact ih0 _ _ _ | exact ih1 _ _ _ _ _ | exact spec_pzClue.mono _ _ _ _ _ _ | exact LeO.none _ | refine LeO.ite ?_ ?_ | refine LeO.bind ?_ (fun _ => ?_)
theorem spec_pzGood.mono : ∀ a0 a1 k, LeO (spec_pzGood.f k a0 a1) (spec_pzGood.f (k + 1) a0 a1) := by
 intro a0 a1 k
 obtain ⟨ih0, ih1⟩ := spec_pzGood.mono_l k
 unfold spec_pzGood.f
 repeat' first | (with_reducible exact ih0 _ _ _) | (with_reducible exact ih1 _ _ _ _ _) | (with_reducible exact spec_pzClue.mono _ _ _ _ _ _) | (with_reducible exact LeO.refl _) | (with_reducible exact LeO.none _) | (with_reducible refine LeO.ite ?_ ?_) | (with_reducible refine LeO.bind ?_ (fun _ => ?_)) | exact ih0 _ _ _ | exact ih1 _ _ _ _ _ | exact spec_pzClue.mono _ _ _ _ _ _ | exact LeO.none _ | refine LeO.ite ?_ ?_ | refine LeO.bind ?_ (fun _ => ?_)
set_option maxHeartbeats 8000000 in
set_option maxRecDepth 100000 in
theorem spec_pzGood.calls (k : Nat) (a0_0 : Int) (A0_1 : Option Addr) (c0_1 : Nat) (l0_1 : List (S_impl_Clue)) (r : Bool) (w : World) (hr0_1 : Kd.C kd_impl_Clue w A0_1 l0_1.length l0_1) (hc0_1 : l0_1.length ≤ c0_1) (h : spec_pzGood.f k a0_0 l0_1 = some r) :
  Calls Tryd.prog 24 #[.agg #[.int .i64 a0_0, .slice A0_1 l0_1.length c0_1]] w fun e w' => e = .returned (.bool r) ∧ Below w.heap.size w w' := by
 have hu24 := Tryd.underlying24; have hu48 := Tryd.underlying48; have HR0_1 := aM hr0_1; have HC0_1 := aM hc0_1; clear hr0_1 hc0_1; have HB := aM (Below.refl w.heap.size w)
 unfold spec_pzGood.f at h; have H := h; clear h
 have HC2 := aM H; clear H
 go_enter Tryd.func24, Tryd.ntmps24
 go_upto_region 1 with (first | ((with_reducible refine gate_dst (N := 1) rfl ?_); (try (refine gate_guard (by rfl) ?_; dsimp only)); refine bV 1 (cs := #[.int .i64 a0_0, .slice A0_1 l0_1.length c0_1]) (t := 24) rfl rfl (by first | (go_simp; done) | (go_simp; rfl)) ?_; intro gb114 hg w3 hbox hb; have BK114 := hbox; have GW114 := gZ HB hg; have GE114 := gZ HB hg; replace HB := tB HB hb; clear hb hbox hg))
 (try simp only [Act.put, sI, sZ, sS])
 go_cut [14] (fun v14 wc => ∃ (kq : Nat) (x14_1 : Bool), v14 = .bool x14_1 ∧ Aside0 (spec_pzGood.j0 kq x14_1 a0_0 l0_1 = some r) ∧ Aside0 (kq ≤ k) ∧ Aside0 (wc.heap[gb114]? = some (.cells #[.int .i64 a0_0, (.slice A0_1 l0_1.length c0_1)] 24 (0, 0))) ∧ Aside0 (Below w.heap.size w wc))
 case first =>
  have H := HC2.out; clear HC2; replace H := bS H; obtain ⟨t115, A4, H⟩ := H
  by_cases c5 : t115 = true
  ·subst c5; replace H := iT H; have H' := aM H; clear H; have hcz6_0 := vZ0 BK114; have hcz6_1 := vZ1 BK114; have hfz6_0 := kF BK114.out 0; have hfz6_1 := kF BK114.out 1
   go_wp2_with (first | ((with_reducible refine gC (f := 40) rfl ?_); refine goesL_ (some 7) rfl rfl Tryd.func40 kR rfl #[.int .i64 a0_0] rfl sQ ?_; (with_reducible refine (spec_pzSide.calls a0_0 true _ A4.out).mono ?_); rintro e w' ⟨rfl, ⟨nd, rfl⟩⟩; refine ⟨_, rfl, ?_⟩))
   go_meet
   case rel => exact ⟨_, (decide ((l0_1.length : Int) > 6)), eQ, H', ⟨by first | omega | exact Nat.le_refl _⟩, ⟨gQ BK114⟩, ⟨bE⟩⟩
  ·replace c5 := Bool.eq_false_iff.mpr c5; subst c5; replace H := iF H; have H' := aM H; clear H; have hcz7_0 := vZ0 BK114; have hcz7_1 := vZ1 BK114; have hfz7_0 := kF BK114.out 0; have hfz7_1 := kF BK114.out 1
   go_wp2_with (first | ((with_reducible refine gC (f := 40) rfl ?_); refine goesL_ (some 7) rfl rfl Tryd.func40 kR rfl #[.int .i64 a0_0] rfl sQ ?_; (with_reducible refine (spec_pzSide.calls a0_0 false _ A4.out).mono ?_); rintro e w' ⟨rfl, ⟨nd, rfl⟩⟩; refine ⟨_, rfl, ?_⟩))
   go_meet
   case rel => exact ⟨_, (true), eQ, H', ⟨by first | omega | exact Nat.le_refl _⟩, ⟨gQ BK114⟩, ⟨bE⟩⟩
 case rest =>
  clear HC2; obtain ⟨kq, x14_1, rfl, HA, HJ1, BK114, HB⟩ := hcut
  cases kq with
  | zero => exact absurd HA.out (by simp [spec_pzGood.j0])
  | succ kj1 =>
   have H := HA.out; clear HA
   simp only [spec_pzGood.j0] at H
   by_cases c8 : x14_1 = true
   ·subst c8; replace H := iT H; obtain rfl := Option.some.inj H; go_wp2
    go_ret
    exact ⟨wQ, bE⟩
   ·replace c8 := Bool.eq_false_iff.mpr c8; subst c8; replace H := iF H; have H' := aM H; clear H; have hcz9_0 : wc.cell? ⟨gb114, 0, none⟩ = some (.int .i64 a0_0) := vZ0 BK114; have hcz9_1 : wc.cell? ⟨gb114, 1, none⟩ = some (.slice A0_1 l0_1.length c0_1) := vZ1 BK114; have hfz9_0 := kF BK114.out 0; have hfz9_1 := kF BK114.out 1; go_wp2
    go_loopg [18] kj1 (fun kq v18 w' => ∃ (x18_2 : Int), v18 = .int .i64 x18_2 ∧ Aside0 (spec_pzGood.l0 kq l0_1 (l0_1.length : Int) x18_2 a0_0 l0_1 = some r) ∧ Aside0 (kq ≤ kj1) ∧ Aside0 (w'.heap[gb114]? = some (.cells #[.int .i64 a0_0, (.slice A0_1 l0_1.length c0_1)] 24 (0, 0))) ∧ Aside0 (Below w.heap.size w w'))
    case atStart => exact ⟨(0), eQ, H', ⟨Nat.le_refl _⟩, ⟨gQ BK114⟩, ⟨bE⟩⟩
    case round =>
     clear H'; (try clear c8); (try clear hcz9_0); (try clear hcz9_1); (try clear hfz9_0); (try clear hfz9_1); obtain ⟨x18_2, rfl, HA, HK2, BK114, HB⟩ := hrel
     cases gk with
     | zero => exact absurd HA.out (by simp [spec_pzGood.l0])
     | succ k2 =>
      have H := HA.out; clear HA
      simp only [spec_pzGood.l0] at H
      by_cases c10 : x18_2 < (l0_1.length : Int)
      ·rw [if_pos c10] at H; have c10b0 := dE c10; clear c10; replace H := iD H; obtain ⟨c11b0, H⟩ := H; replace H := iD H; obtain ⟨c12b0, H⟩ := H; replace H := bS H; obtain ⟨t118, A13, H⟩ := H
       by_cases c14 : t118 = true
       ·subst c14; replace H := iT H; have H' := aM H; clear H; have p116 : 0 ≤ (x18_2 : Int) := dT aQ; have q116 : x18_2 < (l0_1.length : Int) := dT aQ; obtain ⟨ad116, e116, hx116_0, hx116_1, hx116_2, hx116_3⟩ := at_impl_Clue HR0_1.out x18_2 p116 q116
        cases e116
        replace hx116_0 := hC HB hx116_0; replace hx116_1 := hC HB hx116_1; replace hx116_2 := hC HB hx116_2; replace hx116_3 := hC HB hx116_3; replace p116 := eq_true p116; replace q116 := eq_true q116
        go_wp2_with (first | ((with_reducible refine gate_dst (N := 4) rfl ?_); (try (refine gate_guard (by rfl) ?_; dsimp only)); refine bV 4 (cs := #[.int .i64 0, .int .i64 0, .int .i64 0, .int .i64 0]) (t := 48) rfl rfl (by first | (go_simp; done) | (go_simp; rfl)) ?_; intro gb117 hg w15 hbox hb; have BK117 := hbox; have GW117 := gZ HB hg; have GE117 := gZ HB hg; have NB114_117 := nG BK114 hg; have NB117_114 := nH BK114 hg; replace BK114 := bB BK114 hb; replace HB := tB HB hb; clear hb hbox hg; have hnb16 := NB117_114.out; have hnc16 := NB114_117.out; have hcz17_0 := vZ0 BK117; have hcz17_1 := vZ1 BK117; have hcz17_2 := vZ2 BK117; have hcz17_3 := vZ3 BK117; have hfz17_0 := kF BK117.out 0; have hfz17_1 := kF BK117.out 1; have hfz17_2 := kF BK117.out 2; have hfz17_3 := kF BK117.out 3; have hcz18_0 := vZ0 BK114; have hcz18_1 := vZ1 BK114; have hfz18_0 := kF BK114.out 0; have hfz18_1 := kF BK114.out 1) | ((with_reducible refine gC (f := 41) rfl ?_); refine goesL_ (some 25) rfl rfl Tryd.func41 kR rfl #[.int .i64 a0_0, .agg #[.int .i64 ((rd_impl_Clue l0_1 x18_2).f0), .int .i64 ((rd_impl_Clue l0_1 x18_2).f1), .int .i64 ((rd_impl_Clue l0_1 x18_2).f2), .int .i64 ((rd_impl_Clue l0_1 x18_2).f3)]] rfl sQ ?_; (with_reducible refine (spec_pzClue.calls k2 a0_0 ((rd_impl_Clue l0_1 x18_2).f0) ((rd_impl_Clue l0_1 x18_2).f1) ((rd_impl_Clue l0_1 x18_2).f2) ((rd_impl_Clue l0_1 x18_2).f3) true _ A13.out).mono ?_); rintro e w19 ⟨rfl, hb⟩; refine ⟨_, rfl, ?_⟩; replace BK114 := aM (blk_below (g := gb114) (o := .cells #[.int .i64 a0_0, .slice (some ad116) l0_1.length c0_1] 24 (0, 0)) (fQ BK114) hb); replace BK117 := aM (blk_below (g := gb117) (o := .cells #[.int .i64 ((rd_impl_Clue l0_1 x18_2).f0), .int .i64 ((rd_impl_Clue l0_1 x18_2).f1), .int .i64 ((rd_impl_Clue l0_1 x18_2).f2), .int .i64 ((rd_impl_Clue l0_1 x18_2).f3)] 48 (0, 0)) (fQ BK117) hb); replace HB := tB HB hb; (try clear hb); (try clear hb2); (try clear hk); (try clear hi)))
        go_roundg k2
        case measure => have := HJ1.out; have := HK2.out; omega
        case rel => exact ⟨(wrap64 (x18_2 + 1)), eQ, H', ⟨by have := HJ1.out; have := HK2.out; omega⟩, ⟨gQ BK114⟩, ⟨bE⟩⟩
       ·replace c14 := Bool.eq_false_iff.mpr c14; subst c14; replace H := iF H; obtain rfl := Option.some.inj H; have p116 : 0 ≤ (x18_2 : Int) := dT aQ; have q116 : x18_2 < (l0_1.length : Int) := dT aQ; obtain ⟨ad116, e116, hx116_0, hx116_1, hx116_2, hx116_3⟩ := at_impl_Clue HR0_1.out x18_2 p116 q116
        cases e116
        replace hx116_0 := hC HB hx116_0; replace hx116_1 := hC HB hx116_1; replace hx116_2 := hC HB hx116_2; replace hx116_3 := hC HB hx116_3; replace p116 := eq_true p116; replace q116 := eq_true q116
        go_wp2_with (first | ((with_reducible refine gate_dst (N := 4) rfl ?_); (try (refine gate_guard (by rfl) ?_; dsimp only)); refine bV 4 (cs := #[.int .i64 0, .int .i64 0, .int .i64 0, .int .i64 0]) (t := 48) rfl rfl (by first | (go_simp; done) | (go_simp; rfl)) ?_; intro gb117 hg w20 hbox hb; have BK117 := hbox; have GW117 := gZ HB hg; have GE117 := gZ HB hg; have NB114_117 := nG BK114 hg; have NB117_114 := nH BK114 hg; replace BK114 := bB BK114 hb; replace HB := tB HB hb; clear hb hbox hg; have hnb21 := NB117_114.out; have hnc21 := NB114_117.out; have hcz22_0 := vZ0 BK117; have hcz22_1 := vZ1 BK117; have hcz22_2 := vZ2 BK117; have hcz22_3 := vZ3 BK117; have hfz22_0 := kF BK117.out 0; have hfz22_1 := kF BK117.out 1; have hfz22_2 := kF BK117.out 2; have hfz22_3 := kF BK117.out 3; have hcz23_0 := vZ0 BK114; have hcz23_1 := vZ1 BK114; have hfz23_0 := kF BK114.out 0; have hfz23_1 := kF BK114.out 1) | ((with_reducible refine gC (f := 41) rfl ?_); refine goesL_ (some 25) rfl rfl Tryd.func41 kR rfl #[.int .i64 a0_0, .agg #[.int .i64 ((rd_impl_Clue l0_1 x18_2).f0), .int .i64 ((rd_impl_Clue l0_1 x18_2).f1), .int .i64 ((rd_impl_Clue l0_1 x18_2).f2), .int .i64 ((rd_impl_Clue l0_1 x18_2).f3)]] rfl sQ ?_; (with_reducible refine (spec_pzClue.calls k2 a0_0 ((rd_impl_Clue l0_1 x18_2).f0) ((rd_impl_Clue l0_1 x18_2).f1) ((rd_impl_Clue l0_1 x18_2).f2) ((rd_impl_Clue l0_1 x18_2).f3) false _ A13.out).mono ?_); rintro e w24 ⟨rfl, hb⟩; refine ⟨_, rfl, ?_⟩; replace BK114 := aM (blk_below (g := gb114) (o := .cells #[.int .i64 a0_0, .slice (some ad116) l0_1.length c0_1] 24 (0, 0)) (fQ BK114) hb); replace BK117 := aM (blk_below (g := gb117) (o := .cells #[.int .i64 ((rd_impl_Clue l0_1 x18_2).f0), .int .i64 ((rd_impl_Clue l0_1 x18_2).f1), .int .i64 ((rd_impl_Clue l0_1 x18_2).f2), .int .i64 ((rd_impl_Clue l0_1 x18_2).f3)] 48 (0, 0)) (fQ BK117) hb); replace HB := tB HB hb; (try clear hb); (try clear hb2); (try clear hk); (try clear hi)))
        go_ret
        exact ⟨wQ, bE⟩
      ·rw [if_neg c10] at H; have c10b0 := decide_eq_false c10; clear c10; obtain rfl := Option.some.inj H; go_wp2
       go_ret
       exact ⟨wQ, bE⟩

def spec_l1Num.f : Nat → Int → Option (ByteArray)
 | 0, _ => none
 | k + 1, a0 => if a0 < 10 then (some (strOfNums (([(wrap64 (48 + a0)) % 256] : List Int)))) else ((spec_l1Num.f k (wrap64 (Int.tdiv a0 10))).bind fun t122 => ((some (([(wrap64 (48 + (Int.tmod a0 10))) % 256] : List Int) : List Int)).bind fun y123 => (if t122.size + (strOfNums y123).size ≤ 9223372036854775807 then (some (t122 ++ (strOfNums y123))) else (none))))
theorem spec_l1Num.mono_l : ∀ k, (∀ y0, LeO (spec_l1Num.f k y0) (spec_l1Num.f (k + 1) y0))
 | 0 => fun _ r h => by simp [spec_l1Num.f] at h
 | k + 1 => by
  have ih0 := spec_l1Num.mono_l k
  ·intro y0
   unfold spec_l1Num.f
   repeat' first
   | (with_reducible exact ih0 _)
   | (with_reducible exact LeO.refl _)
   | (with_reducible exact LeO.none _)
   | (with_reducible refine LeO.ite ?_ ?_)
   | (with_reducible refine LeO.bind ?_ (fun _ => ?_))
   | exact ih0 _
   | exact LeO.none _
   | refine LeO.ite ?_ ?_
   | refine LeO.bind ?_ (fun _ => ?_)
theorem spec_l1Num.mono : ∀ a0 k, LeO (spec_l1Num.f k a0) (spec_l1Num.f (k + 1) a0) := by
 intro a0 k
 have ih0 := spec_l1Num.mono_l k
 exact ih0 a0
def spec_l1Num.T3 : Bool × List (List Nat × List Nat) := (true, [([], []), ([0], [0]), ([1], [1]), ([], []), ([3], [3]), ([4], [4]), ([5], [5]), ([6], [6]), ([7], [7]), ([2, 8], [2, 8]), ([9, 2, 0, 1, 2, 3, 4, 5, 6, 7, 8, 9], [9])])
def spec_l1Num.B3 : List Nat := [0, 1, 3, 0, 8, 24, 56, 120, 248, 511, 1023]
theorem spec_l1Num.tab3 : rtab .any (opsOf Tryd.f42 3) = spec_l1Num.T3 := by kernel_rfl
theorem spec_l1Num.bits3 : waitsOk spec_l1Num.T3.2 spec_l1Num.B3 = true := by kernel_rfl
set_option maxHeartbeats 8000000 in
set_option maxRecDepth 100000 in
theorem spec_l1Num.calls (k : Nat) : ∀ (a0 : Int) (r : ByteArray) (w : World) (h : spec_l1Num.f k a0 = some r),
  Calls Tryd.prog 42 #[.int .i64 a0] w fun e w' => e = .returned (.string r) ∧ Below w.heap.size w w' := by
 induction k using Nat.strongRecOn with
 | _ k ih =>
 intro a0 r w h
 cases k with
 | zero => exact absurd h (by simp [spec_l1Num.f])
 | succ k =>
 simp only [spec_l1Num.f] at h
 have HB := aM (Below.refl w.heap.size w)
 have H := h; clear h
 by_cases c2 : a0 < 10
 ·rw [if_pos c2] at H; have c2b0 := dE c2; clear c2; obtain ⟨y119, hy119⟩ : ∃ y_ : List Int, y_ = (([(wrap64 (48 + a0)) % 256] : List Int)) := ⟨_, rfl⟩; rw [← hy119] at H; have Ny119 := aM hy119; clear hy119; obtain rfl := Option.some.inj H
  go_enter Tryd.func42, Tryd.ntmps42
  go_wp2_with (first | ((with_reducible refine gate_dst (N := 8) rfl ?_); refine Kd.R_lit (Kd.int .u8) _ 5 ?hg (N := 8) ?hd (xs := ([(wrap64 (48 + a0)) % 256] : List Int)) (inner := [.int .u8 ((wrap64 (48 + a0)) % 256)]) (ok := fun _ => True) (okp := fun _ => True) ?hr ?hp (fun _ hk => hk) trivial (Below.refl _ _) (Nat.le_refl _) (by simp) ?_; (case hd => rfl); (case hg => rfl); (case hr => first | (go_simp; done) | (go_simp; rfl)); (case hp => exact (Reps.one (show Kd.M (Kd.int .u8) _ _ _ ((wrap64 (48 + a0)) % 256) [.int .u8 ((wrap64 (48 + a0)) % 256)] from rfl) (Reps.none _ _))); intro v120 w3 ho4 hb hg_ hnew_; clear hg_ hnew_; (first | rw [← Ny119.out] at ho4 | (simp only [Int.reduceToNat] at ho4; rw [← Ny119.out] at ho4)); have HO121 := aM (Kd.R_lower ho4 (pZ bQ)); replace HB := tB HB hb; clear hb ho4; have hcv5 := own_string (P := Tryd.prog) Tryd.underlying71 Tryd.underlying5 Tryd.underlying9 (Kd.own_of_R HO121.out)))
  go_ret
  exact ⟨wQ, bQ⟩
 ·rw [if_neg c2] at H; have c2b0 := decide_eq_false c2; clear c2; replace H := bS H; obtain ⟨t122, A6, H⟩ := H; replace H := lS H; obtain ⟨y123, Ny123, H⟩ := H; replace H := iN H; obtain ⟨c7, H⟩ := H; have c7b0 := eq_true c7; have c7b1 := dE c7
  try have c7b2 : (9223372036854775807 < t122.size + (strOfNums y123).size) = False := eq_false (Nat.not_lt.2 c7)
  obtain rfl := Option.some.inj H
  go_enter Tryd.func42, Tryd.ntmps42
  try go_wp2
  replace HB := aM (pD HB.out)
  refine start_ (n := 11) (S := fun w' => True) (ds := []) (bA 11 0) kR rfl kR trivial (fun hHeld => ?_); refine with_tabW spec_l1Num.tab3 spec_l1Num.bits3 (fun HT_ HW_ => ?_)
  generalize w.drew = w8 at HB hHeld ⊢
  refine pU 0 10 (bA 11 1) HT_ ?_; refine pU 1 11 (bA 11 3) HT_ ?_; refine pU 3 13 (bA 11 11) HT_ ?_; refine pU 4 14 (bA 11 27) HT_ ?_; refine pU 5 15 (bA 11 59) HT_ ?_; refine pU 6 16 (bA 11 123) HT_ ?_
  refine join_ (σ := Value) 2 (bA 11 511) (fun s_ => [(12, .string t122), (17, s_), (18, .string (strOfNums y123))]) (fun s_ w' => (Kd.R (Kd.int .u8) 5 w' w.heap.size (fun _ => True) s_ y123) ∧ (Below w.heap.size w w')) ?_ ?_
  rotate_left
  ·intro hCont
   refine two_ (i := 2) (j := 7) (Ni := some 12) (Nj := some 17) (bA 11 127) (bA 11 251) rfl rfl rfl rfl (two_of HT_.out kR) (by decide) (by decide) (fun K hK => ?_) (fun K hK => ?_)
   ·skip
    refine goes_ Tryd.func42 kR rfl #[.int .i64 (wrap64 (Int.tdiv a0 10))] (by rfl) rfl rfl sQ ?_
    with_reducible refine (ih k (by omega) (wrap64 (Int.tdiv a0 10)) t122 _ A6.out).mono ?_
    rintro e w9 ⟨rfl, hb⟩; refine ⟨_, rfl, ?_⟩; replace HB := tB HB hb; (try clear hb); (try clear hb2); (try clear hk); (try clear hi)
    refine hK.out _ _ trivial (fun hHeld => ?_)
    clear hK K
    refine nU ?_
    refine oU 7 17 (bA 11 255) HT_ (fun K hK => ?_)
    refine Kd.R_lit_step (Kd.int .u8) _ 5 ?hg (N := 17) ?hd (xs := ([(wrap64 (48 + (Int.tmod a0 10))) % 256] : List Int)) (inner := [.int .u8 ((wrap64 (48 + (Int.tmod a0 10))) % 256)]) (ok := fun _ => True) (okp := fun _ => True) ?hr ?hp (fun _ hk => hk) trivial (Below.refl _ _) (Nat.le_refl _) (by simp) ?_; (case hd => rfl); (case hg => rfl); (case hr => first | (go_simp; done) | (go_simp; rfl)); (case hp => exact (Reps.one (show Kd.M (Kd.int .u8) _ _ _ ((wrap64 (48 + (Int.tmod a0 10))) % 256) [.int .u8 ((wrap64 (48 + (Int.tmod a0 10))) % 256)] from rfl) (Reps.none _ _)))
    intro v124 w10 ho11 hb hg_ hnew_
    clear hg_ hnew_
    (first | rw [← Ny123.out] at ho11 | (simp only [Int.reduceToNat] at ho11; rw [← Ny123.out] at ho11))
    have HO125 := aM (Kd.R_lower ho11 (pZ bQ)); replace HB := tB HB hb; clear hb ho11
    refine hK.out _ _ trivial (fun hHeld => ?_)
    clear hK K
    refine nU ?_
    refine oU 8 18 (bA 11 511) HT_ (fun K hK => ?_)
    have hcv12 := own_string (P := Tryd.prog) Tryd.underlying71 Tryd.underlying5 Tryd.underlying9 (Kd.own_of_R HO125.out)
    refine value_ (w1 := ?_) (v := ?_) (by rfl) rfl ?_ ?_
    rotate_left 2
    ·go_simp
     constructor
     ·rfl
     ·rfl
    clear hcv12
    refine hK.out _ _ trivial (fun hHeld => ?_)
    clear hK K
    refine nU ?_
    exact norm_ (by simp only [putAll, Act.put, sI, sZ, sS]) (hCont (v124) _ ⟨(by (with_reducible repeat (first | apply rA | apply rN | apply rD)); exact HO125.out), bQ⟩)
   ·skip
    refine Kd.R_lit_step (Kd.int .u8) _ 5 ?hg (N := 17) ?hd (xs := ([(wrap64 (48 + (Int.tmod a0 10))) % 256] : List Int)) (inner := [.int .u8 ((wrap64 (48 + (Int.tmod a0 10))) % 256)]) (ok := fun _ => True) (okp := fun _ => True) ?hr ?hp (fun _ hk => hk) trivial (Below.refl _ _) (Nat.le_refl _) (by simp) ?_; (case hd => rfl); (case hg => rfl); (case hr => first | (go_simp; done) | (go_simp; rfl)); (case hp => exact (Reps.one (show Kd.M (Kd.int .u8) _ _ _ ((wrap64 (48 + (Int.tmod a0 10))) % 256) [.int .u8 ((wrap64 (48 + (Int.tmod a0 10))) % 256)] from rfl) (Reps.none _ _)))
    intro v124 w9 ho10 hb hg_ hnew_
    clear hg_ hnew_
    (first | rw [← Ny123.out] at ho10 | (simp only [Int.reduceToNat] at ho10; rw [← Ny123.out] at ho10))
    have HO125 := aM (Kd.R_lower ho10 (pZ bQ)); replace HB := tB HB hb; clear hb ho10
    refine hK.out _ _ trivial (fun hHeld => ?_)
    clear hK K
    refine nU ?_
    refine two_ (i := 2) (j := 8) (Ni := some 12) (Nj := some 18) (bA 11 255) (bA 11 507) rfl rfl rfl rfl (two_of HT_.out kR) (by decide) (by decide) (fun K hK => ?_) (fun K hK => ?_)
    ·skip
     refine goes_ Tryd.func42 kR rfl #[.int .i64 (wrap64 (Int.tdiv a0 10))] (by rfl) rfl rfl sQ ?_
     with_reducible refine (ih k (by omega) (wrap64 (Int.tdiv a0 10)) t122 _ A6.out).mono ?_
     rintro e w11 ⟨rfl, hb⟩; refine ⟨_, rfl, ?_⟩; replace HO125 := aM (Kd.R_below (by (with_reducible repeat (first | apply rA | apply rN | apply rD)); exact HO125.out) hb); replace HB := tB HB hb
     (try clear hb); (try clear hb2); (try clear hk); (try clear hi)
     refine hK.out _ _ trivial (fun hHeld => ?_)
     clear hK K
     refine nU ?_
     refine oU 8 18 (bA 11 511) HT_ (fun K hK => ?_)
     have hcv12 := own_string (P := Tryd.prog) Tryd.underlying71 Tryd.underlying5 Tryd.underlying9 (Kd.own_of_R HO125.out)
     refine value_ (w1 := ?_) (v := ?_) (by rfl) rfl ?_ ?_
     rotate_left 2
     ·go_simp
      constructor
      ·rfl
      ·rfl
     clear hcv12
     refine hK.out _ _ trivial (fun hHeld => ?_)
     clear hK K
     refine nU ?_
     exact norm_ (by simp only [putAll, Act.put, sI, sZ, sS]) (hCont (v124) _ ⟨(by (with_reducible repeat (first | apply rA | apply rN | apply rD)); exact HO125.out), bQ⟩)
    ·skip
     have hcv11 := own_string (P := Tryd.prog) Tryd.underlying71 Tryd.underlying5 Tryd.underlying9 (Kd.own_of_R HO125.out)
     refine value_ (w1 := ?_) (v := ?_) (by rfl) rfl ?_ ?_
     rotate_left 2
     ·go_simp
      constructor
      ·rfl
      ·rfl
     clear hcv11
     refine hK.out _ _ trivial (fun hHeld => ?_)
     clear hK K
     refine nU ?_
     refine oU 2 12 (bA 11 511) HT_ (fun K hK => ?_)
     refine goes_ Tryd.func42 kR rfl #[.int .i64 (wrap64 (Int.tdiv a0 10))] (by rfl) rfl rfl sQ ?_
     with_reducible refine (ih k (by omega) (wrap64 (Int.tdiv a0 10)) t122 _ A6.out).mono ?_
     rintro e w12 ⟨rfl, hb⟩; refine ⟨_, rfl, ?_⟩; replace HO125 := aM (Kd.R_below (by (with_reducible repeat (first | apply rA | apply rN | apply rD)); exact HO125.out) hb); replace HB := tB HB hb
     (try clear hb); (try clear hb2); (try clear hk); (try clear hi)
     refine hK.out _ _ trivial (fun hHeld => ?_)
     clear hK K
     refine nU ?_
     exact norm_ (by simp only [putAll, Act.put, sI, sZ, sS]) (hCont (v124) _ ⟨(by (with_reducible repeat (first | apply rA | apply rN | apply rD)); exact HO125.out), bQ⟩)
  rintro v124 w13 ⟨h0_, h1_⟩; have n0_ : Aside0 (Kd.R (Kd.int .u8) 5 w13 w.heap.size (fun _ => True) v124 y123) := ⟨h0_⟩; have n1_ : Aside0 (Below w.heap.size w w13) := ⟨h1_⟩; clear HB; clear h0_ h1_; have HO125 := n0_; have HB := n1_; clear n0_ n1_; have hHeld := trivial
  refine norm_ (a' := ?_) ?_ ?_
  rotate_left
  ·simp only [putAll, Act.put, sI, sZ, sS]
   rfl
  refine pU 9 19 (bA 11 1023) HT_ ?_; refine pU 10 2 (bA 11 2047) HT_ ?_
  refine done_ (done_of HT_.out kR) ?_
  try go_wp2
  go_ret
  exact ⟨wQ, bQ⟩
end Go.Proofs.YtoeclfihlhmnpaaDoor.X
