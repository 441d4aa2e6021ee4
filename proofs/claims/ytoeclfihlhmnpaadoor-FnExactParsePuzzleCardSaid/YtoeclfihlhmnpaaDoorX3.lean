-- thin
-- short
-- compact
import Derived.Test.YtoeclfihlhmnpaaDoorXA
import Derived.Test.YtoeclfihlhmnpaaDoorX0
import Derived.Test.YtoeclfihlhmnpaaDoorX2
namespace Go.Proofs.YtoeclfihlhmnpaaDoor.X
open Go.RowKit Go.Proofs.YtoeclfihlhmnpaaDoor.XW Go.Proofs.YtoeclfihlhmnpaaDoorW.PrintWords Go.Proofs.YtoeclfihlhmnpaaDoorW.PrintLast Go.Proofs.YtoeclfihlhmnpaaDoorW.PrintMore
attribute [local go_sem] max2_int min2_int max_two min_two max_three min_three max_four min_four   -- for this text's walks alone
set_option linter.unusedVariables false
set_option linter.unusedSimpArgs false

mutual
def spec_pzText.l0 : Nat → ByteArray → List (S_impl_Clue) → Int → Int → Option (ByteArray)
 | 0, _, _, _, _ => none
 | k + 1, x3, x11, x12, x13 => if x13 < x12 then (if 0 ≤ x13 then (if x13 < (x11.length : Int) then (if x13 > 0 then (if x3.size + 1 ≤ 9223372036854775807 then (spec_pzText.j1 k (x3 ++ (⟨#[44]⟩ : ByteArray)) x11 x12 x13 ((rd_impl_Clue x11 x13).f0) ((rd_impl_Clue x11 x13).f1) ((rd_impl_Clue x11 x13).f2) ((rd_impl_Clue x11 x13).f3)) else (none)) else (spec_pzText.j1 k x3 x11 x12 x13 ((rd_impl_Clue x11 x13).f0) ((rd_impl_Clue x11 x13).f1) ((rd_impl_Clue x11 x13).f2) ((rd_impl_Clue x11 x13).f3))) else (none)) else (none)) else (some x3)
def spec_pzText.j1 : Nat → ByteArray → List (S_impl_Clue) → Int → Int → Int → Int → Int → Int → Option (ByteArray)
 | 0, _, _, _, _, _, _, _, _ => none
 | k + 1, x3, x11, x12, x13, x130000, x130001, x130002, x130003 => (spec_l1Num.f k x130000).bind fun t130 => (if t130.size + 1 ≤ 9223372036854775807 then ((spec_l1Num.f k x130001).bind fun t131 => (if (t130 ++ (⟨#[46]⟩ : ByteArray)).size + t131.size ≤ 9223372036854775807 then (if ((t130 ++ (⟨#[46]⟩ : ByteArray)) ++ t131).size + 1 ≤ 9223372036854775807 then ((spec_l1Num.f k x130002).bind fun t132 => (if (((t130 ++ (⟨#[46]⟩ : ByteArray)) ++ t131) ++ (⟨#[46]⟩ : ByteArray)).size + t132.size ≤ 9223372036854775807 then (if ((((t130 ++ (⟨#[46]⟩ : ByteArray)) ++ t131) ++ (⟨#[46]⟩ : ByteArray)) ++ t132).size + 1 ≤ 9223372036854775807 then ((spec_l1Num.f k x130003).bind fun t133 => (if (((((t130 ++ (⟨#[46]⟩ : ByteArray)) ++ t131) ++ (⟨#[46]⟩ : ByteArray)) ++ t132) ++ (⟨#[46]⟩ : ByteArray)).size + t133.size ≤ 9223372036854775807 then (if x3.size + ((((((t130 ++ (⟨#[46]⟩ : ByteArray)) ++ t131) ++ (⟨#[46]⟩ : ByteArray)) ++ t132) ++ (⟨#[46]⟩ : ByteArray)) ++ t133).size ≤ 9223372036854775807 then (spec_pzText.l0 k (x3 ++ ((((((t130 ++ (⟨#[46]⟩ : ByteArray)) ++ t131) ++ (⟨#[46]⟩ : ByteArray)) ++ t132) ++ (⟨#[46]⟩ : ByteArray)) ++ t133)) x11 x12 (wrap64 (x13 + 1))) else (none)) else (none))) else (none)) else (none))) else (none)) else (none))) else (none))
end
def spec_pzText.f (k : Nat) (a0_0 : Int) (l0_1 : List (S_impl_Clue)) : Option (ByteArray) := (spec_l1Num.f k a0_0).bind fun t127 => (if t127.size + 1 ≤ 9223372036854775807 then (spec_pzText.l0 k (t127 ++ (⟨#[58]⟩ : ByteArray)) l0_1 (l0_1.length : Int) 0) else (none))
theorem spec_pzText.mono_l : ∀ k, (∀ y0 y1 y2 y3, LeO (spec_pzText.l0 k y0 y1 y2 y3) (spec_pzText.l0 (k + 1) y0 y1 y2 y3)) ∧ (∀ y0 y1 y2 y3 y4 y5 y6 y7, LeO (spec_pzText.j1 k y0 y1 y2 y3 y4 y5 y6 y7) (spec_pzText.j1 (k + 1) y0 y1 y2 y3 y4 y5 y6 y7))
 | 0 => ⟨fun _ _ _ _ r h => by simp [spec_pzText.l0] at h, fun _ _ _ _ _ _ _ _ r h => by simp [spec_pzText.j1] at h⟩
 | k + 1 => by
  obtain ⟨ih0, ih1⟩ := spec_pzText.mono_l k
  refine ⟨?_, ?_⟩ <;> intros <;> (first | unfold spec_pzText.l0 | unfold spec_pzText.j1) <;> repeat' first | (with_reducible exact ih0 _ _ _ _) | (with_reducible exact ih1 _ _ _ _ _ _ _ _) | (with_reducible exact spec_l1Num.mono _ _) | (with_reducible exact LeO.refl _) | (with_reducible exact LeO.none _) | (with_reducible refine LeO.ite ?_ ?_) | (with_reducible refine LeO.bind ?_ (fun _ => ?_)) | exact ih0 _ _ _ _ | exact ih1 _ _ _ _ _ _ _ _ | exact spec_l1Num.mono _ _ | exact LeO.none _ | refine LeO.ite ?_ ?_ | refine LeO.bind ?_ (fun _ => ?_)
theorem spec_pzText.mono : ∀ a0 a1 k, LeO (spec_pzText.f k a0 a1) (spec_pzText.f (k + 1) a0 a1) := by
 intro a0 a1 k
 obtain ⟨ih0, ih1⟩ := spec_pzText.mono_l k
 unfold spec_pzText.f
 repeat' first | (with_reducible exact ih0 _ _ _ _) | (with_reducible exact ih1 _ _ _ _ _ _ _ _) | (with_reducible exact spec_l1Num.mono _ _) | (with_reducible exact LeO.refl _) | (with_reducible exact LeO.none _) | (with_reducible refine LeO.ite ?_ ?_) | (with_reducible refine LeO.bind ?_ (fun _ => ?_)) | exact ih0 _ _ _ _ | exact ih1 _ _ _ _ _ _ _ _ | exact spec_l1Num.mono _ _ | exact LeO.none _ | refine LeO.ite ?_ ?_ | refine LeO.bind ?_ (fun _ => ?_)
def spec_pzText.T7 : Bool × List (List Nat × List Nat) := (true, [([], []), ([], []), ([1], [1]), ([2], [2]), ([3], [3]), ([], []), ([5], [5]), ([6, 3], [6]), ([4, 7], [4, 7]), ([8], [8]), ([], []), ([10], [10]), ([11, 7], [11]), ([9, 12], [9, 12]), ([13], [13]), ([], []), ([15], [15]), ([16, 12], [16]), ([14, 17], [14, 17]), ([0, 18], [0, 18]), ([19, 17, 0, 1, 2, 3, 4, 5, 6, 7, 8, 9, 10, 11, 12, 13, 14, 15, 16, 17, 18, 19], [0, 19])])
def spec_pzText.B7 : List Nat := [0, 0, 2, 6, 14, 0, 32, 110, 254, 510, 0, 1024, 3310, 8190, 16382, 0, 32768, 105710, 262142, 524287, 1048575]
theorem spec_pzText.tab7 : rtab .any (opsOf Tryd.f25 7) = spec_pzText.T7 := by kernel_rfl
theorem spec_pzText.bits7 : waitsOk spec_pzText.T7.2 spec_pzText.B7 = true := by kernel_rfl
set_option maxHeartbeats 8000000 in
set_option maxRecDepth 100000 in
theorem spec_pzText.calls (k : Nat) (a0_0 : Int) (A0_1 : Option Addr) (c0_1 : Nat) (l0_1 : List (S_impl_Clue)) (r : ByteArray) (w : World) (hr0_1 : Kd.C kd_impl_Clue w A0_1 l0_1.length l0_1) (hc0_1 : l0_1.length ≤ c0_1) (h : spec_pzText.f k a0_0 l0_1 = some r) :
  Calls Tryd.prog 25 #[.agg #[.int .i64 a0_0, .slice A0_1 l0_1.length c0_1]] w fun e w' => e = .returned (.string r) ∧ Below w.heap.size w w' := by
 have hu24 := Tryd.underlying24; have hu48 := Tryd.underlying48; have HR0_1 := aM hr0_1; have HC0_1 := aM hc0_1; clear hr0_1 hc0_1; have HB := aM (Below.refl w.heap.size w)
 unfold spec_pzText.f at h; have H := h; clear h
 replace H := bS H; obtain ⟨t127, A2, H⟩ := H; replace H := iN H; obtain ⟨c3, H⟩ := H; have c3b0 := eq_true c3; have c3b1 := dE c3
 try have c3b2 : (9223372036854775807 < t127.size + 1) = False := eq_false (Nat.not_lt.2 c3)
 have H' := aM H; clear H
 go_enter Tryd.func25, Tryd.ntmps25
 go_wp2_with (first | ((with_reducible refine gate_dst (N := 1) rfl ?_); refine bV 1 (cs := #[.int .i64 a0_0, .slice A0_1 l0_1.length c0_1]) (t := 24) rfl rfl (by first | (go_simp; done) | (go_simp; rfl)) ?_; intro gb126 hg w4 hbox hb; have BK126 := hbox; have GW126 := gZ HB hg; have GE126 := gZ HB hg; replace HB := tB HB hb; clear hb hbox hg; have hcz5_0 := vZ0 BK126; have hcz5_1 := vZ1 BK126; have hfz5_0 := kF BK126.out 0; have hfz5_1 := kF BK126.out 1) | ((with_reducible refine gC (f := 42) rfl ?_); refine goesL_ (some 8) rfl rfl Tryd.func42 kR rfl #[.int .i64 a0_0] rfl sQ ?_; (with_reducible refine (spec_l1Num.calls k a0_0 t127 _ A2.out).mono ?_); rintro e w6 ⟨rfl, hb⟩; refine ⟨_, rfl, ?_⟩; replace BK126 := bB BK126 hb; replace HB := tB HB hb; (try clear hb); (try clear hb2); (try clear hk); (try clear hi); have hcz7_0 := vZ0 BK126; have hcz7_1 := vZ1 BK126; have hfz7_0 := kF BK126.out 0; have hfz7_1 := kF BK126.out 1))
 go_loopg [3, 13] k (fun kq v3 v13 w' => ∃ (x3_1 : ByteArray) (x13_1 : Int), v3 = .string x3_1 ∧ v13 = .int .i64 x13_1 ∧ Aside0 (spec_pzText.l0 kq x3_1 l0_1 (l0_1.length : Int) x13_1 = some r) ∧ Aside0 (kq ≤ k) ∧ Aside0 (w'.heap[gb126]? = some (.cells #[.int .i64 a0_0, (.slice A0_1 l0_1.length c0_1)] 24 (0, 0))) ∧ Aside0 (Below w.heap.size w w'))
 case atStart => exact ⟨(t127 ++ (⟨#[58]⟩ : ByteArray)), (0), eQ, eQ, H', ⟨Nat.le_refl _⟩, ⟨gQ BK126⟩, ⟨bE⟩⟩
 case round =>
  clear H'; (try clear c3); (try clear c3b0); (try clear c3b1); (try clear c3b2); (try clear hcz5_0); (try clear hcz5_1); (try clear hcz7_0); (try clear hcz7_1); (try clear hfz5_0); (try clear hfz5_1); (try clear hfz7_0); (try clear hfz7_1); obtain ⟨x3_1, x13_1, rfl, rfl, HA, HK1, BK126, HB⟩ := hrel
  cases gk with
  | zero => exact absurd HA.out (by simp [spec_pzText.l0])
  | succ k1 =>
   have H := HA.out; clear HA
   simp only [spec_pzText.l0] at H
   by_cases c8 : x13_1 < (l0_1.length : Int)
   ·rw [if_pos c8] at H; have c8b0 := dE c8; clear c8; replace H := iD H; obtain ⟨c9b0, H⟩ := H; replace H := iD H; obtain ⟨c10b0, H⟩ := H; have HC11 := aM H; clear H; have p128 : 0 ≤ (x13_1 : Int) := dT aQ; have q128 : x13_1 < (l0_1.length : Int) := dT aQ; obtain ⟨ad128, e128, hx128_0, hx128_1, hx128_2, hx128_3⟩ := at_impl_Clue HR0_1.out x13_1 p128 q128
    cases e128
    replace hx128_0 := hC HB hx128_0; replace hx128_1 := hC HB hx128_1; replace hx128_2 := hC HB hx128_2; replace hx128_3 := hC HB hx128_3; replace p128 := eq_true p128; replace q128 := eq_true q128
    go_upto_if 19 with (first | ((with_reducible refine gate_dst (N := 5) rfl ?_); refine bV 5 (cs := #[.int .i64 0, .int .i64 0, .int .i64 0, .int .i64 0]) (t := 48) rfl rfl (by first | (go_simp; done) | (go_simp; rfl)) ?_; intro gb129 hg w12 hbox hb; have n0_ := bB BK126 hb; have n1_ := tB HB hb; have n2_ := hbox; have n3_ := gZ HB hg; have n4_ := gZ HB hg; have n5_ := nG BK126 hg; have n6_ := nH BK126 hg; clear BK126; clear HB; have BK126 := n0_; have HB := n1_; have BK129 := n2_; have GW129 := n3_; have GE129 := n4_; have NB126_129 := n5_; have NB129_126 := n6_; clear n0_ n1_ n2_ n3_ n4_ n5_ n6_; clear hb hbox hg; have hnb13 := NB129_126.out; have hnc13 := NB126_129.out; have hcz14_0 := vZ0 BK129; have hcz14_1 := vZ1 BK129; have hcz14_2 := vZ2 BK129; have hcz14_3 := vZ3 BK129; have hfz14_0 := kF BK129.out 0; have hfz14_1 := kF BK129.out 1; have hfz14_2 := kF BK129.out 2; have hfz14_3 := kF BK129.out 3))
    (try simp only [Act.put, sI, sZ, sS])
    go_cut [3] (fun v3 wc => ∃ (kq : Nat) (x3_10 : ByteArray), v3 = .string x3_10 ∧ Aside0 (spec_pzText.j1 kq x3_10 l0_1 (l0_1.length : Int) x13_1 ((rd_impl_Clue l0_1 x13_1).f0) ((rd_impl_Clue l0_1 x13_1).f1) ((rd_impl_Clue l0_1 x13_1).f2) ((rd_impl_Clue l0_1 x13_1).f3) = some r) ∧ Aside0 (kq ≤ k1) ∧ Aside0 (wc.heap[gb126]? = some (.cells #[.int .i64 a0_0, (.slice (some ad128) l0_1.length c0_1)] 24 (0, 0))) ∧ Aside0 (wc.heap[gb129]? = some (.cells #[.int .i64 ((rd_impl_Clue l0_1 x13_1).f0), .int .i64 ((rd_impl_Clue l0_1 x13_1).f1), .int .i64 ((rd_impl_Clue l0_1 x13_1).f2), .int .i64 ((rd_impl_Clue l0_1 x13_1).f3)] 48 (0, 0))) ∧ Aside0 (Below w.heap.size w wc))
    case first =>
     have H := HC11.out; clear HC11
     by_cases c15 : x13_1 > 0
     ·rw [if_pos c15] at H; have c15b0 := dE c15; clear c15
      (first | rw [c15b0] | (simp only [i64_w, i32_w]; rw [c15b0]) | skip)
      replace H := iN H; obtain ⟨c16, H⟩ := H; have c16b0 := eq_true c16; have c16b1 := dE c16
      try have c16b2 : (9223372036854775807 < x3_1.size + 1) = False := eq_false (Nat.not_lt.2 c16)
      have H' := aM H; clear H; go_wp2
      go_meet
      case rel => exact ⟨_, (x3_1 ++ (⟨#[44]⟩ : ByteArray)), eQ, H', ⟨by have := HK1.out; first | omega | exact Nat.le_refl _⟩, ⟨fQ BK126⟩, ⟨fQ BK129⟩, ⟨bE⟩⟩
     ·rw [if_neg c15] at H; have c15b0 := decide_eq_false c15; clear c15
      (first | rw [c15b0] | (simp only [i64_w, i32_w]; rw [c15b0]) | skip)
      have H' := aM H; clear H; go_wp2
      go_meet
      case rel => exact ⟨_, (x3_1), eQ, H', ⟨by have := HK1.out; first | omega | exact Nat.le_refl _⟩, ⟨fQ BK126⟩, ⟨fQ BK129⟩, ⟨bE⟩⟩
    case rest =>
     clear HC11; (try clear c3); (try clear c3b0); (try clear c3b1); (try clear c3b2); (try clear c8); (try clear c8b0); (try clear c9b0); (try clear c10b0); (try clear hcz14_0); (try clear hcz14_1); (try clear hcz14_2); (try clear hcz14_3); (try clear hcz5_0); (try clear hcz5_1); (try clear hcz7_0); (try clear hcz7_1); (try clear hfz14_0); (try clear hfz14_1); (try clear hfz14_2); (try clear hfz14_3); (try clear hfz5_0); (try clear hfz5_1); (try clear hfz7_0); (try clear hfz7_1); (try clear hx128_0); (try clear hx128_1); (try clear hx128_2); (try clear hx128_3); (try clear p128); (try clear q128); obtain ⟨kq, x3_10, rfl, HA, HJ10, BK126, BK129, HB⟩ := hcut
     cases kq with
     | zero => exact absurd HA.out (by simp [spec_pzText.j1])
     | succ kj10 =>
      have H := HA.out; clear HA
      simp only [spec_pzText.j1] at H
      replace H := bS H; obtain ⟨t130, A17, H⟩ := H; replace H := iN H; obtain ⟨c18, H⟩ := H; have c18b0 := eq_true c18; have c18b1 := dE c18
      try have c18b2 : (9223372036854775807 < t130.size + 1) = False := eq_false (Nat.not_lt.2 c18)
      replace H := bS H; obtain ⟨t131, A19, H⟩ := H; replace H := iN H; obtain ⟨c20, H⟩ := H; have c20b0 := eq_true c20; have c20b1 := dE c20
      try have c20b2 : (9223372036854775807 < (t130 ++ (⟨#[46]⟩ : ByteArray)).size + t131.size) = False := eq_false (Nat.not_lt.2 c20)
      (try have c20b2s := c20b2); (try simp only [ByteArray.size_append, sz1] at c20b2s)
      replace H := iN H; obtain ⟨c21, H⟩ := H; have c21b0 := eq_true c21; have c21b1 := dE c21
      try have c21b2 : (9223372036854775807 < ((t130 ++ (⟨#[46]⟩ : ByteArray)) ++ t131).size + 1) = False := eq_false (Nat.not_lt.2 c21)
      (try have c21b2s := c21b2); (try simp only [ByteArray.size_append, sz1] at c21b2s)
      replace H := bS H; obtain ⟨t132, A22, H⟩ := H; replace H := iN H; obtain ⟨c23, H⟩ := H; have c23b0 := eq_true c23; have c23b1 := dE c23
      try have c23b2 : (9223372036854775807 < (((t130 ++ (⟨#[46]⟩ : ByteArray)) ++ t131) ++ (⟨#[46]⟩ : ByteArray)).size + t132.size) = False := eq_false (Nat.not_lt.2 c23)
      (try have c23b2s := c23b2); (try simp only [ByteArray.size_append, sz1] at c23b2s)
      replace H := iN H; obtain ⟨c24, H⟩ := H; have c24b0 := eq_true c24; have c24b1 := dE c24
      try have c24b2 : (9223372036854775807 < ((((t130 ++ (⟨#[46]⟩ : ByteArray)) ++ t131) ++ (⟨#[46]⟩ : ByteArray)) ++ t132).size + 1) = False := eq_false (Nat.not_lt.2 c24)
      (try have c24b2s := c24b2); (try simp only [ByteArray.size_append, sz1] at c24b2s)
      replace H := bS H; obtain ⟨t133, A25, H⟩ := H; replace H := iN H; obtain ⟨c26, H⟩ := H; have c26b0 := eq_true c26; have c26b1 := dE c26
      try have c26b2 : (9223372036854775807 < (((((t130 ++ (⟨#[46]⟩ : ByteArray)) ++ t131) ++ (⟨#[46]⟩ : ByteArray)) ++ t132) ++ (⟨#[46]⟩ : ByteArray)).size + t133.size) = False := eq_false (Nat.not_lt.2 c26)
      (try have c26b2s := c26b2); (try simp only [ByteArray.size_append, sz1] at c26b2s)
      replace H := iN H; obtain ⟨c27, H⟩ := H; have c27b0 := eq_true c27; have c27b1 := dE c27
      try have c27b2 : (9223372036854775807 < x3_10.size + ((((((t130 ++ (⟨#[46]⟩ : ByteArray)) ++ t131) ++ (⟨#[46]⟩ : ByteArray)) ++ t132) ++ (⟨#[46]⟩ : ByteArray)) ++ t133).size) = False := eq_false (Nat.not_lt.2 c27)
      (try have c27b2s := c27b2); (try simp only [ByteArray.size_append, sz1] at c27b2s)
      have H' := aM H; clear H
      try go_wp2
      replace BK126 := aM (kD BK126.out); replace BK129 := aM (kD BK129.out); replace HB := aM (pD HB.out)
      refine start_ (n := 21) (S := fun w' => w'.cell? ⟨gb129, 0, none⟩ = some (.int .i64 ((rd_impl_Clue l0_1 x13_1).f0)) ∧ w'.cell? ⟨gb129, 1, none⟩ = some (.int .i64 ((rd_impl_Clue l0_1 x13_1).f1)) ∧ w'.cell? ⟨gb129, 2, none⟩ = some (.int .i64 ((rd_impl_Clue l0_1 x13_1).f2)) ∧ w'.cell? ⟨gb129, 3, none⟩ = some (.int .i64 ((rd_impl_Clue l0_1 x13_1).f3))) (ds := []) (bA 21 0) kR rfl kR ⟨vZ0 BK129, vZ1 BK129, vZ2 BK129, vZ3 BK129⟩ (fun hHeld => ?_); refine with_tabW spec_pzText.tab7 spec_pzText.bits7 (fun HT_ HW_ => ?_)
      generalize wc.drew = w28 at BK126 BK129 HB hHeld ⊢
      refine pU 0 22 (bA 21 1) HT_ ?_; refine pU 1 23 (bA 21 3) HT_ ?_; refine pU 5 27 (bA 21 35) HT_ ?_; refine pU 10 32 (bA 21 1059) HT_ ?_; refine pU 15 37 (bA 21 33827) HT_ ?_
      refine tU 2 24 (bA 21 33831) HT_ HW_ hHeld ?_ (hy := Or.inl ⟨by rfl, by rintro w' ⟨s0, s1, s2, s3⟩; go_simp; with_reducible rfl⟩)
      refine tU 6 28 (bA 21 33895) HT_ HW_ hHeld ?_ (hy := Or.inl ⟨by rfl, by rintro w' ⟨s0, s1, s2, s3⟩; go_simp; with_reducible rfl⟩)
      refine tU 11 33 (bA 21 35943) HT_ HW_ hHeld ?_ (hy := Or.inl ⟨by rfl, by rintro w' ⟨s0, s1, s2, s3⟩; go_simp; with_reducible rfl⟩)
      refine tU 16 38 (bA 21 101479) HT_ HW_ hHeld ?_ (hy := Or.inl ⟨by rfl, by rintro w' ⟨s0, s1, s2, s3⟩; go_simp; with_reducible rfl⟩)
      refine oU 3 25 (bA 21 101487) HT_ (fun K hK => ?_)
      refine goes_ Tryd.func42 kR rfl #[.int .i64 ((rd_impl_Clue l0_1 x13_1).f0)] (by rfl) rfl rfl sQ ?_
      with_reducible refine (spec_l1Num.calls kj10 ((rd_impl_Clue l0_1 x13_1).f0) t130 _ A17.out).mono ?_
      rintro e w29 ⟨rfl, hb⟩; refine ⟨_, rfl, ?_⟩; replace BK126 := bB BK126 hb; replace BK129 := bB BK129 hb; replace HB := tB HB hb; (try clear hb); (try clear hb2); (try clear hk); (try clear hi)
      refine hK.out _ _ ⟨vZ0 BK129, vZ1 BK129, vZ2 BK129, vZ3 BK129⟩ (fun hHeld => ?_)
      clear hK K
      refine nU ?_
      refine pU 4 26 (bA 21 101503) HT_ ?_
      refine oU 7 29 (bA 21 101631) HT_ (fun K hK => ?_)
      refine goes_ Tryd.func42 kR rfl #[.int .i64 ((rd_impl_Clue l0_1 x13_1).f1)] (by rfl) rfl rfl sQ ?_
      with_reducible refine (spec_l1Num.calls kj10 ((rd_impl_Clue l0_1 x13_1).f1) t131 _ A19.out).mono ?_
      rintro e w30 ⟨rfl, hb⟩; refine ⟨_, rfl, ?_⟩; replace BK126 := bB BK126 hb; replace BK129 := bB BK129 hb; replace HB := tB HB hb; (try clear hb); (try clear hb2); (try clear hk); (try clear hi)
      refine hK.out _ _ ⟨vZ0 BK129, vZ1 BK129, vZ2 BK129, vZ3 BK129⟩ (fun hHeld => ?_)
      clear hK K
      refine nU ?_
      refine pU 8 30 (bA 21 101887) HT_ ?_; refine pU 9 31 (bA 21 102399) HT_ ?_
      refine oU 12 34 (bA 21 106495) HT_ (fun K hK => ?_)
      refine goes_ Tryd.func42 kR rfl #[.int .i64 ((rd_impl_Clue l0_1 x13_1).f2)] (by rfl) rfl rfl sQ ?_
      with_reducible refine (spec_l1Num.calls kj10 ((rd_impl_Clue l0_1 x13_1).f2) t132 _ A22.out).mono ?_
      rintro e w31 ⟨rfl, hb⟩; refine ⟨_, rfl, ?_⟩; replace BK126 := bB BK126 hb; replace BK129 := bB BK129 hb; replace HB := tB HB hb; (try clear hb); (try clear hb2); (try clear hk); (try clear hi)
      refine hK.out _ _ ⟨vZ0 BK129, vZ1 BK129, vZ2 BK129, vZ3 BK129⟩ (fun hHeld => ?_)
      clear hK K
      refine nU ?_
      refine pU 13 35 (bA 21 114687) HT_ ?_; refine pU 14 36 (bA 21 131071) HT_ ?_
      refine oU 17 39 (bA 21 262143) HT_ (fun K hK => ?_)
      refine goes_ Tryd.func42 kR rfl #[.int .i64 ((rd_impl_Clue l0_1 x13_1).f3)] (by rfl) rfl rfl sQ ?_
      with_reducible refine (spec_l1Num.calls kj10 ((rd_impl_Clue l0_1 x13_1).f3) t133 _ A25.out).mono ?_
      rintro e w32 ⟨rfl, hb⟩; refine ⟨_, rfl, ?_⟩; replace BK126 := bB BK126 hb; replace BK129 := bB BK129 hb; replace HB := tB HB hb; (try clear hb); (try clear hb2); (try clear hk); (try clear hi)
      refine hK.out _ _ ⟨vZ0 BK129, vZ1 BK129, vZ2 BK129, vZ3 BK129⟩ (fun hHeld => ?_)
      clear hK K
      refine nU ?_
      refine pU 18 40 (bA 21 524287) HT_ ?_; refine pU 19 41 (bA 21 1048575) HT_ ?_; refine pU 20 3 (bA 21 2097151) HT_ ?_
      refine done_ (done_of HT_.out kR) ?_
      try go_wp2
      go_roundg kj10
      case measure => have := HK1.out; have := HJ10.out; omega
      case rel => exact ⟨(x3_10 ++ ((((((t130 ++ (⟨#[46]⟩ : ByteArray)) ++ t131) ++ (⟨#[46]⟩ : ByteArray)) ++ t132) ++ (⟨#[46]⟩ : ByteArray)) ++ t133)), (wrap64 (x13_1 + 1)), eQ, eQ, H', ⟨by have := HK1.out; have := HJ10.out; omega⟩, ⟨gQ BK126⟩, ⟨bE⟩⟩
   ·rw [if_neg c8] at H; have c8b0 := decide_eq_false c8; clear c8; obtain rfl := Option.some.inj H; go_wp2
    go_ret
    exact ⟨wQ, bE⟩
end Go.Proofs.YtoeclfihlhmnpaaDoor.X
