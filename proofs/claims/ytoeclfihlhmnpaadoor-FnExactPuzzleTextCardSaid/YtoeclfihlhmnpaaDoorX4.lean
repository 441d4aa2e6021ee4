-- thin
-- short
-- compact
import Derived.Test.YtoeclfihlhmnpaaDoorXA
import Derived.Test.YtoeclfihlhmnpaaDoorX0
import Derived.Test.YtoeclfihlhmnpaaDoorX3
namespace Go.Proofs.YtoeclfihlhmnpaaDoor.X
open Go.RowKit Go.Proofs.YtoeclfihlhmnpaaDoor.XW Go.Proofs.YtoeclfihlhmnpaaDoorW.PrintWords Go.Proofs.YtoeclfihlhmnpaaDoorW.PrintLast Go.Proofs.YtoeclfihlhmnpaaDoorW.PrintMore
attribute [local go_sem] max2_int min2_int max_two min_two max_three min_three max_four min_four   -- for this text's walks alone
set_option linter.unusedVariables false
set_option linter.unusedSimpArgs false

mutual
def spec_pzText.l0 : Nat → ByteArray → List (S_impl_Clue) → Int → Int → Option (ByteArray)
 | 0, _, _, _, _ => none
 | k + 1, x3, x11, x12, x13 => if x13 < x12 then (if 0 ≤ x13 then (if x13 < (x11.length : Int) then (if x13 > 0 then (if x3.size + 1 ≤ 9223372036854775807 then (spec_pzText.j1 k (x3 ++ (⟨#[44]⟩ : ByteArray)) x11 x12 x13 ((rd_impl_Clue x11 x13).f0) ((rd_impl_Clue x11 x13).f1) ((rd_impl_Clue x11 x13).f2) ((rd_impl_Clue x11 x13).f3)) else (none)) else (spec_pzText.j1 k x3 x11 x12 x13 ((rd_impl_Clue x11 x13).f0) ((rd_impl_Clue x11 x13).f1) ((rd_impl_Clue x11 x13).f2) ((rd_impl_Clue x11 x13).f3))) else (none)) else (none)) else (some x3)
def spec_pzText.j1 : Nat → ByteArray → List (S_impl_Clue) → Int → Int → Int → Int → Int → Int → Option (ByteArray)
 | 0, _, _, _, _, _, _, _, _ => none
 | k + 1, x3, x11, x12, x13, x140000, x140001, x140002, x140003 => (spec_l1Num.f k x140000).bind fun t140 => (if t140.size + 1 ≤ 9223372036854775807 then ((spec_l1Num.f k x140001).bind fun t141 => (if (t140 ++ (⟨#[46]⟩ : ByteArray)).size + t141.size ≤ 9223372036854775807 then (if ((t140 ++ (⟨#[46]⟩ : ByteArray)) ++ t141).size + 1 ≤ 9223372036854775807 then ((spec_l1Num.f k x140002).bind fun t142 => (if (((t140 ++ (⟨#[46]⟩ : ByteArray)) ++ t141) ++ (⟨#[46]⟩ : ByteArray)).size + t142.size ≤ 9223372036854775807 then (if ((((t140 ++ (⟨#[46]⟩ : ByteArray)) ++ t141) ++ (⟨#[46]⟩ : ByteArray)) ++ t142).size + 1 ≤ 9223372036854775807 then ((spec_l1Num.f k x140003).bind fun t143 => (if (((((t140 ++ (⟨#[46]⟩ : ByteArray)) ++ t141) ++ (⟨#[46]⟩ : ByteArray)) ++ t142) ++ (⟨#[46]⟩ : ByteArray)).size + t143.size ≤ 9223372036854775807 then (if x3.size + ((((((t140 ++ (⟨#[46]⟩ : ByteArray)) ++ t141) ++ (⟨#[46]⟩ : ByteArray)) ++ t142) ++ (⟨#[46]⟩ : ByteArray)) ++ t143).size ≤ 9223372036854775807 then (spec_pzText.l0 k (x3 ++ ((((((t140 ++ (⟨#[46]⟩ : ByteArray)) ++ t141) ++ (⟨#[46]⟩ : ByteArray)) ++ t142) ++ (⟨#[46]⟩ : ByteArray)) ++ t143)) x11 x12 (wrap64 (x13 + 1))) else (none)) else (none))) else (none)) else (none))) else (none)) else (none))) else (none))
end
def spec_pzText.f (k : Nat) (a0_0 : Int) (l0_1 : List (S_impl_Clue)) : Option (ByteArray) := (spec_l1Num.f k a0_0).bind fun t137 => (if t137.size + 1 ≤ 9223372036854775807 then (spec_pzText.l0 k (t137 ++ (⟨#[58]⟩ : ByteArray)) l0_1 (l0_1.length : Int) 0) else (none))
theorem spec_pzText.mono_l : ∀ k, (∀ y0 y1 y2 y3, LeO (spec_pzText.l0 k y0 y1 y2 y3) (spec_pzText.l0 (k + 1) y0 y1 y2 y3)) ∧ (∀ y0 y1 y2 y3 y4 y5 y6 y7, LeO (spec_pzText.j1 k y0 y1 y2 y3 y4 y5 y6 y7) (spec_pzText.j1 (k + 1) y0 y1 y2 y3 y4 y5 y6 y7))
 | 0 => ⟨fun _ _ _ _ r h => by simp [spec_pzText.l0] at h, fun _ _ _ _ _ _ _ _ r h => by simp [spec_pzText.j1] at h⟩
 | k + 1 => by
  obtain ⟨ih0, ih1⟩ := spec_pzText.mono_l k
  refine ⟨?_, ?_⟩ <;> intros <;> (first | unfold spec_pzText.l0 | unfold spec_pzText.j1) <;> repeat' first | (with_reducible exact ih0 _ _ _ _) | (with_reducible exact ih1 _ _ _ _ _ _ _ _) | (with_reducible exact spec_l1Num.mono _ _) | (with_reducible exact LeO.refl _) | (with_reducible exact LeO.none _) | (with_reducible refine LeO.ite ?_ ?_) | (with_reducible refine LeO.bind ?_ (fun _ => ?_)) | exact ih0 _ _ _ _ | exact ih1 _ _ _ _ _ _ _ _ | exact spec_l1Num.mono _ _ | exact LeO.none _ | refine LeO.ite ?_ ?_ | refine LeO.bind ?_ (fun _ => ?_)
theorem spec_pzText.mono : ∀ a0 a1 k, LeO (spec_pzText.f k a0 a1) (spec_pzText.f (k + 1) a0 a1) := by
 intro a0 a1 k
 obtain ⟨ih0, ih1⟩ := spec_pzText.mono_l k
 unfold spec_pzText.f
 repeat' first | (with_reducible exact ih0 _ _ _ _) | (with_reducible exact ih1 _ _ _ _ _ _ _ _) | (with_reducible exact spec_l1Num.mono _ _) | (with_reducible exact LeO.refl _) | (with_reducible exact LeO.none _) | (with_reducible refine LeO.ite ?_ ?_) | (with_reducible refine LeO.bind ?_ (fun _ => ?_)) | exact ih0 _ _ _ _ | exact ih1 _ _ _ _ _ _ _ _ | exact spec_l1Num.mono _ _ | exact LeO.none _ | refine LeO.ite ?_ ?_ | refine LeO.bind ?_ (fun _ => ?_)
def spec_pzText.T7 : Bool × List (List Nat × List Nat) := (true, [([], []), ([], []), ([1], [1]), ([2], [2]), ([3], [3]), ([], []), ([5], [5]), ([6, 3], [6]), ([4, 7], [4, 7]), ([8], [8]), ([], []), ([10], [10]), ([11, 7], [11]), ([9, 12], [9, 12]), ([13], [13]), ([], []), ([15], [15]), ([16, 12], [16]), ([14, 17], [14, 17]), ([0, 18], [0, 18]), ([19, 17, 0, 1, 2, 3, 4, 5, 6, 7, 8, 9, 10, 11, 12, 13, 14, 15, 16, 17, 18, 19], [0, 19])])
def spec_pzText.B7 : List Nat := [0, 0, 2, 6, 14, 0, 32, 110, 254, 510, 0, 1024, 3310, 8190, 16382, 0, 32768, 105710, 262142, 524287, 1048575]
theorem spec_pzText.tab7 : rtab .any (opsOf Tryd.f25 7) = spec_pzText.T7 := by kernel_rfl
theorem spec_pzText.bits7 : waitsOk spec_pzText.T7.2 spec_pzText.B7 = true := by kernel_rfl
set_option maxHeartbeats 8000000 in
set_option maxRecDepth 100000 in
theorem spec_pzText.calls (k : Nat) (a0_0 : Int) (A0_1 : Option Addr) (c0_1 : Nat) (l0_1 : List (S_impl_Clue)) (r : ByteArray) (w : World) (hr0_1 : Kd.C kd_impl_Clue w A0_1 l0_1.length l0_1) (hc0_1 : l0_1.length ≤ c0_1) (h : spec_pzText.f k a0_0 l0_1 = some r) :
  Calls Tryd.prog 25 #[.agg #[.int .i64 a0_0, .slice A0_1 l0_1.length c0_1]] w fun e w' => e = .returned (.string r) ∧ Below w.heap.size w w' := by
 have hu24 := Tryd.underlying24; have hu48 := Tryd.underlying48; have HR0_1 := aM hr0_1; have HC0_1 := aM hc0_1; clear hr0_1 hc0_1; have HB := aM (Below.refl w.heap.size w)
 unfold spec_pzText.f at h; have H := h; clear h
 replace H := bS H; obtain ⟨t137, A2, H⟩ := H; replace H := iN H; obtain ⟨c3, H⟩ := H; have c3b0 := eq_true c3; have c3b1 := dE c3
 try have c3b2 : (9223372036854775807 < t137.size + 1) = False := eq_false (Nat.not_lt.2 c3)
 have H' := aM H; clear H
 go_enter Tryd.func25, Tryd.ntmps25
 go_wp2_with (first | ((with_reducible refine gate_dst (N := 1) rfl ?_); refine bV 1 (cs := #[.int .i64 a0_0, .slice A0_1 l0_1.length c0_1]) (t := 24) rfl rfl (by first | (go_simp; done) | (go_simp; rfl)) ?_; intro gb136 hg w4 hbox hb; have BK136 := hbox; have GW136 := gZ HB hg; have GE136 := gZ HB hg; replace HB := tB HB hb; clear hb hbox hg; have hcz5_0 := vZ0 BK136; have hcz5_1 := vZ1 BK136; have hfz5_0 := kF BK136.out 0; have hfz5_1 := kF BK136.out 1) | ((with_reducible refine gC (f := 42) rfl ?_); refine goesL_ (some 8) rfl rfl Tryd.func42 kR rfl #[.int .i64 a0_0] rfl sQ ?_; (with_reducible refine (spec_l1Num.calls k a0_0 t137 _ A2.out).mono ?_); rintro e w6 ⟨rfl, hb⟩; refine ⟨_, rfl, ?_⟩; replace BK136 := bB BK136 hb; replace HB := tB HB hb; (try clear hb); (try clear hb2); (try clear hk); (try clear hi); have hcz7_0 := vZ0 BK136; have hcz7_1 := vZ1 BK136; have hfz7_0 := kF BK136.out 0; have hfz7_1 := kF BK136.out 1))
 go_loopg [3, 13] k (fun kq v3 v13 w' => ∃ (x3_1 : ByteArray) (x13_1 : Int), v3 = .string x3_1 ∧ v13 = .int .i64 x13_1 ∧ Aside0 (spec_pzText.l0 kq x3_1 l0_1 (l0_1.length : Int) x13_1 = some r) ∧ Aside0 (kq ≤ k) ∧ Aside0 (w'.heap[gb136]? = some (.cells #[.int .i64 a0_0, (.slice A0_1 l0_1.length c0_1)] 24 (0, 0))) ∧ Aside0 (Below w.heap.size w w'))
 case atStart => exact ⟨(t137 ++ (⟨#[58]⟩ : ByteArray)), (0), eQ, eQ, H', ⟨Nat.le_refl _⟩, ⟨gQ BK136⟩, ⟨bE⟩⟩
 case round =>
  clear H'; (try clear c3); (try clear c3b0); (try clear c3b1); (try clear c3b2); (try clear hcz5_0); (try clear hcz5_1); (try clear hcz7_0); (try clear hcz7_1); (try clear hfz5_0); (try clear hfz5_1); (try clear hfz7_0); (try clear hfz7_1); obtain ⟨x3_1, x13_1, rfl, rfl, HA, HK1, BK136, HB⟩ := hrel
  cases gk with
  | zero => exact absurd HA.out (by simp [spec_pzText.l0])
  | succ k1 =>
   have H := HA.out; clear HA
   simp only [spec_pzText.l0] at H
   by_cases c8 : x13_1 < (l0_1.length : Int)
   ·rw [if_pos c8] at H; have c8b0 := dE c8; clear c8; replace H := iD H; obtain ⟨c9b0, H⟩ := H; replace H := iD H; obtain ⟨c10b0, H⟩ := H; have HC11 := aM H; clear H; have p138 : 0 ≤ (x13_1 : Int) := dT aQ; have q138 : x13_1 < (l0_1.length : Int) := dT aQ; obtain ⟨ad138, e138, hx138_0, hx138_1, hx138_2, hx138_3⟩ := at_impl_Clue HR0_1.out x13_1 p138 q138
    cases e138
    replace hx138_0 := hC HB hx138_0; replace hx138_1 := hC HB hx138_1; replace hx138_2 := hC HB hx138_2; replace hx138_3 := hC HB hx138_3; replace p138 := eq_true p138; replace q138 := eq_true q138
    go_upto_if 19 with (first | ((with_reducible refine gate_dst (N := 5) rfl ?_); refine bV 5 (cs := #[.int .i64 0, .int .i64 0, .int .i64 0, .int .i64 0]) (t := 48) rfl rfl (by first | (go_simp; done) | (go_simp; rfl)) ?_; intro gb139 hg w12 hbox hb; have n0_ := bB BK136 hb; have n1_ := tB HB hb; have n2_ := hbox; have n3_ := gZ HB hg; have n4_ := gZ HB hg; have n5_ := nG BK136 hg; have n6_ := nH BK136 hg; clear BK136; clear HB; have BK136 := n0_; have HB := n1_; have BK139 := n2_; have GW139 := n3_; have GE139 := n4_; have NB136_139 := n5_; have NB139_136 := n6_; clear n0_ n1_ n2_ n3_ n4_ n5_ n6_; clear hb hbox hg; have hnb13 := NB139_136.out; have hnc13 := NB136_139.out; have hcz14_0 := vZ0 BK139; have hcz14_1 := vZ1 BK139; have hcz14_2 := vZ2 BK139; have hcz14_3 := vZ3 BK139; have hfz14_0 := kF BK139.out 0; have hfz14_1 := kF BK139.out 1; have hfz14_2 := kF BK139.out 2; have hfz14_3 := kF BK139.out 3))
    (try simp only [Act.put, sI, sZ, sS])
    go_cut [3] (fun v3 wc => ∃ (kq : Nat) (x3_10 : ByteArray), v3 = .string x3_10 ∧ Aside0 (spec_pzText.j1 kq x3_10 l0_1 (l0_1.length : Int) x13_1 ((rd_impl_Clue l0_1 x13_1).f0) ((rd_impl_Clue l0_1 x13_1).f1) ((rd_impl_Clue l0_1 x13_1).f2) ((rd_impl_Clue l0_1 x13_1).f3) = some r) ∧ Aside0 (kq ≤ k1) ∧ Aside0 (wc.heap[gb136]? = some (.cells #[.int .i64 a0_0, (.slice (some ad138) l0_1.length c0_1)] 24 (0, 0))) ∧ Aside0 (wc.heap[gb139]? = some (.cells #[.int .i64 ((rd_impl_Clue l0_1 x13_1).f0), .int .i64 ((rd_impl_Clue l0_1 x13_1).f1), .int .i64 ((rd_impl_Clue l0_1 x13_1).f2), .int .i64 ((rd_impl_Clue l0_1 x13_1).f3)] 48 (0, 0))) ∧ Aside0 (Below w.heap.size w wc))
    case first =>
     have H := HC11.out; clear HC11
     by_cases c15 : x13_1 > 0
     ·rw [if_pos c15] at H; have c15b0 := dE c15; clear c15
      (first | rw [c15b0] | (simp only [i64_w, i32_w]; rw [c15b0]) | skip)
      replace H := iN H; obtain ⟨c16, H⟩ := H; have c16b0 := eq_true c16; have c16b1 := dE c16
      try have c16b2 : (9223372036854775807 < x3_1.size + 1) = False := eq_false (Nat.not_lt.2 c16)
      have H' := aM H; clear H; go_wp2
      go_meet
      case rel => exact ⟨_, (x3_1 ++ (⟨#[44]⟩ : ByteArray)), eQ, H', ⟨by have := HK1.out; first | omega | exact Nat.le_refl _⟩, ⟨fQ BK136⟩, ⟨fQ BK139⟩, ⟨bE⟩⟩
     ·rw [if_neg c15] at H; have c15b0 := decide_eq_false c15; clear c15
      (first | rw [c15b0] | (simp only [i64_w, i32_w]; rw [c15b0]) | skip)
      have H' := aM H; clear H; go_wp2
      go_meet
      case rel => exact ⟨_, (x3_1), eQ, H', ⟨by have := HK1.out; first | omega | exact Nat.le_refl _⟩, ⟨fQ BK136⟩, ⟨fQ BK139⟩, ⟨bE⟩⟩
    case rest =>
     clear HC11; (try clear c3); (try clear c3b0); (try clear c3b1); (try clear c3b2); (try clear c8); (try clear c8b0); (try clear c9b0); (try clear c10b0); (try clear hcz14_0); (try clear hcz14_1); (try clear hcz14_2); (try clear hcz14_3); (try clear hcz5_0); (try clear hcz5_1); (try clear hcz7_0); (try clear hcz7_1); (try clear hfz14_0); (try clear hfz14_1); (try clear hfz14_2); (try clear hfz14_3); (try clear hfz5_0); (try clear hfz5_1); (try clear hfz7_0); (try clear hfz7_1); (try clear hx138_0); (try clear hx138_1); (try clear hx138_2); (try clear hx138_3); (try clear p138); (try clear q138); obtain ⟨kq, x3_10, rfl, HA, HJ10, BK136, BK139, HB⟩ := hcut
     cases kq with
     | zero => exact absurd HA.out (by simp [spec_pzText.j1])
     | succ kj10 =>
      have H := HA.out; clear HA
      simp only [spec_pzText.j1] at H
      replace H := bS H; obtain ⟨t140, A17, H⟩ := H; replace H := iN H; obtain ⟨c18, H⟩ := H; have c18b0 := eq_true c18; have c18b1 := dE c18
      try have c18b2 : (9223372036854775807 < t140.size + 1) = False := eq_false (Nat.not_lt.2 c18)
      replace H := bS H; obtain ⟨t141, A19, H⟩ := H; replace H := iN H; obtain ⟨c20, H⟩ := H; have c20b0 := eq_true c20; have c20b1 := dE c20
      try have c20b2 : (9223372036854775807 < (t140 ++ (⟨#[46]⟩ : ByteArray)).size + t141.size) = False := eq_false (Nat.not_lt.2 c20)
      (try have c20b2s := c20b2); (try simp only [ByteArray.size_append, sz1] at c20b2s)
      replace H := iN H; obtain ⟨c21, H⟩ := H; have c21b0 := eq_true c21; have c21b1 := dE c21
      try have c21b2 : (9223372036854775807 < ((t140 ++ (⟨#[46]⟩ : ByteArray)) ++ t141).size + 1) = False := eq_false (Nat.not_lt.2 c21)
      (try have c21b2s := c21b2); (try simp only [ByteArray.size_append, sz1] at c21b2s)
      replace H := bS H; obtain ⟨t142, A22, H⟩ := H; replace H := iN H; obtain ⟨c23, H⟩ := H; have c23b0 := eq_true c23; have c23b1 := dE c23
      try have c23b2 : (9223372036854775807 < (((t140 ++ (⟨#[46]⟩ : ByteArray)) ++ t141) ++ (⟨#[46]⟩ : ByteArray)).size + t142.size) = False := eq_false (Nat.not_lt.2 c23)
      (try have c23b2s := c23b2); (try simp only [ByteArray.size_append, sz1] at c23b2s)
      replace H := iN H; obtain ⟨c24, H⟩ := H; have c24b0 := eq_true c24; have c24b1 := dE c24
      try have c24b2 : (9223372036854775807 < ((((t140 ++ (⟨#[46]⟩ : ByteArray)) ++ t141) ++ (⟨#[46]⟩ : ByteArray)) ++ t142).size + 1) = False := eq_false (Nat.not_lt.2 c24)
      (try have c24b2s := c24b2); (try simp only [ByteArray.size_append, sz1] at c24b2s)
      replace H := bS H; obtain ⟨t143, A25, H⟩ := H; replace H := iN H; obtain ⟨c26, H⟩ := H; have c26b0 := eq_true c26; have c26b1 := dE c26
      try have c26b2 : (9223372036854775807 < (((((t140 ++ (⟨#[46]⟩ : ByteArray)) ++ t141) ++ (⟨#[46]⟩ : ByteArray)) ++ t142) ++ (⟨#[46]⟩ : ByteArray)).size + t143.size) = False := eq_false (Nat.not_lt.2 c26)
      (try have c26b2s := c26b2); (try simp only [ByteArray.size_append, sz1] at c26b2s)
      replace H := iN H; obtain ⟨c27, H⟩ := H; have c27b0 := eq_true c27; have c27b1 := dE c27
      try have c27b2 : (9223372036854775807 < x3_10.size + ((((((t140 ++ (⟨#[46]⟩ : ByteArray)) ++ t141) ++ (⟨#[46]⟩ : ByteArray)) ++ t142) ++ (⟨#[46]⟩ : ByteArray)) ++ t143).size) = False := eq_false (Nat.not_lt.2 c27)
      (try have c27b2s := c27b2); (try simp only [ByteArray.size_append, sz1] at c27b2s)
      have H' := aM H; clear H
      try go_wp2
      replace BK136 := aM (kD BK136.out); replace BK139 := aM (kD BK139.out); replace HB := aM (pD HB.out)
      refine start_ (n := 21) (S := fun w' => w'.cell? ⟨gb139, 0, none⟩ = some (.int .i64 ((rd_impl_Clue l0_1 x13_1).f0)) ∧ w'.cell? ⟨gb139, 1, none⟩ = some (.int .i64 ((rd_impl_Clue l0_1 x13_1).f1)) ∧ w'.cell? ⟨gb139, 2, none⟩ = some (.int .i64 ((rd_impl_Clue l0_1 x13_1).f2)) ∧ w'.cell? ⟨gb139, 3, none⟩ = some (.int .i64 ((rd_impl_Clue l0_1 x13_1).f3))) (ds := []) (bA 21 0) kR rfl kR ⟨vZ0 BK139, vZ1 BK139, vZ2 BK139, vZ3 BK139⟩ (fun hHeld => ?_); refine with_tabW spec_pzText.tab7 spec_pzText.bits7 (fun HT_ HW_ => ?_)
      generalize wc.drew = w28 at BK136 BK139 HB hHeld ⊢
      refine pU 0 22 (bA 21 1) HT_ ?_; refine pU 1 23 (bA 21 3) HT_ ?_; refine pU 5 27 (bA 21 35) HT_ ?_; refine pU 10 32 (bA 21 1059) HT_ ?_; refine pU 15 37 (bA 21 33827) HT_ ?_
      refine tU 2 24 (bA 21 33831) HT_ HW_ hHeld ?_ (hy := Or.inl ⟨by rfl, by rintro w' ⟨s0, s1, s2, s3⟩; go_simp; with_reducible rfl⟩)
      refine tU 6 28 (bA 21 33895) HT_ HW_ hHeld ?_ (hy := Or.inl ⟨by rfl, by rintro w' ⟨s0, s1, s2, s3⟩; go_simp; with_reducible rfl⟩)
      refine tU 11 33 (bA 21 35943) HT_ HW_ hHeld ?_ (hy := Or.inl ⟨by rfl, by rintro w' ⟨s0, s1, s2, s3⟩; go_simp; with_reducible rfl⟩)
      refine tU 16 38 (bA 21 101479) HT_ HW_ hHeld ?_ (hy := Or.inl ⟨by rfl, by rintro w' ⟨s0, s1, s2, s3⟩; go_simp; with_reducible rfl⟩)
      refine oU 3 25 (bA 21 101487) HT_ (fun K hK => ?_)
      refine goes_ Tryd.func42 kR rfl #[.int .i64 ((rd_impl_Clue l0_1 x13_1).f0)] (by rfl) rfl rfl sQ ?_
      with_reducible refine (spec_l1Num.calls kj10 ((rd_impl_Clue l0_1 x13_1).f0) t140 _ A17.out).mono ?_
      rintro e w29 ⟨rfl, hb⟩; refine ⟨_, rfl, ?_⟩; replace BK136 := bB BK136 hb; replace BK139 := bB BK139 hb; replace HB := tB HB hb; (try clear hb); (try clear hb2); (try clear hk); (try clear hi)
      refine hK.out _ _ ⟨vZ0 BK139, vZ1 BK139, vZ2 BK139, vZ3 BK139⟩ (fun hHeld => ?_)
      clear hK K
      refine nU ?_
      refine pU 4 26 (bA 21 101503) HT_ ?_
      refine oU 7 29 (bA 21 101631) HT_ (fun K hK => ?_)
      refine goes_ Tryd.func42 kR rfl #[.int .i64 ((rd_impl_Clue l0_1 x13_1).f1)] (by rfl) rfl rfl sQ ?_
      with_reducible refine (spec_l1Num.calls kj10 ((rd_impl_Clue l0_1 x13_1).f1) t141 _ A19.out).mono ?_
      rintro e w30 ⟨rfl, hb⟩; refine ⟨_, rfl, ?_⟩; replace BK136 := bB BK136 hb; replace BK139 := bB BK139 hb; replace HB := tB HB hb; (try clear hb); (try clear hb2); (try clear hk); (try clear hi)
      refine hK.out _ _ ⟨vZ0 BK139, vZ1 BK139, vZ2 BK139, vZ3 BK139⟩ (fun hHeld => ?_)
      clear hK K
      refine nU ?_
      refine pU 8 30 (bA 21 101887) HT_ ?_; refine pU 9 31 (bA 21 102399) HT_ ?_
      refine oU 12 34 (bA 21 106495) HT_ (fun K hK => ?_)
      refine goes_ Tryd.func42 kR rfl #[.int .i64 ((rd_impl_Clue l0_1 x13_1).f2)] (by rfl) rfl rfl sQ ?_
      with_reducible refine (spec_l1Num.calls kj10 ((rd_impl_Clue l0_1 x13_1).f2) t142 _ A22.out).mono ?_
      rintro e w31 ⟨rfl, hb⟩; refine ⟨_, rfl, ?_⟩; replace BK136 := bB BK136 hb; replace BK139 := bB BK139 hb; replace HB := tB HB hb; (try clear hb); (try clear hb2); (try clear hk); (try clear hi)
      refine hK.out _ _ ⟨vZ0 BK139, vZ1 BK139, vZ2 BK139, vZ3 BK139⟩ (fun hHeld => ?_)
      clear hK K
      refine nU ?_
      refine pU 13 35 (bA 21 114687) HT_ ?_; refine pU 14 36 (bA 21 131071) HT_ ?_
      refine oU 17 39 (bA 21 262143) HT_ (fun K hK => ?_)
      refine goes_ Tryd.func42 kR rfl #[.int .i64 ((rd_impl_Clue l0_1 x13_1).f3)] (by rfl) rfl rfl sQ ?_
      with_reducible refine (spec_l1Num.calls kj10 ((rd_impl_Clue l0_1 x13_1).f3) t143 _ A25.out).mono ?_
      rintro e w32 ⟨rfl, hb⟩; refine ⟨_, rfl, ?_⟩; replace BK136 := bB BK136 hb; replace BK139 := bB BK139 hb; replace HB := tB HB hb; (try clear hb); (try clear hb2); (try clear hk); (try clear hi)
      refine hK.out _ _ ⟨vZ0 BK139, vZ1 BK139, vZ2 BK139, vZ3 BK139⟩ (fun hHeld => ?_)
      clear hK K
      refine nU ?_
      refine pU 18 40 (bA 21 524287) HT_ ?_; refine pU 19 41 (bA 21 1048575) HT_ ?_; refine pU 20 3 (bA 21 2097151) HT_ ?_
      refine done_ (done_of HT_.out kR) ?_
      try go_wp2
      go_roundg kj10
      case measure => have := HK1.out; have := HJ10.out; omega
      case rel => exact ⟨(x3_10 ++ ((((((t140 ++ (⟨#[46]⟩ : ByteArray)) ++ t141) ++ (⟨#[46]⟩ : ByteArray)) ++ t142) ++ (⟨#[46]⟩ : ByteArray)) ++ t143)), (wrap64 (x13_1 + 1)), eQ, eQ, H', ⟨by have := HK1.out; have := HJ10.out; omega⟩, ⟨gQ BK136⟩, ⟨bE⟩⟩
   ·rw [if_neg c8] at H; have c8b0 := decide_eq_false c8; clear c8; obtain rfl := Option.some.inj H; go_wp2
    go_ret
    exact ⟨wQ, bE⟩
def spec_PuzzleText.f (k : Nat) (a0_0 : Int) (l0_1 : List (S_impl_Clue)) : Option (ByteArray × Bool) := (spec_pzGood.f k a0_0 l0_1).bind fun t145 => (if t145 = true then ((spec_pzText.f k a0_0 l0_1).bind fun t146 => (some (t146, true))) else (some ((⟨#[]⟩ : ByteArray), false)))
theorem spec_PuzzleText.mono : ∀ a0 a1 k, LeO (spec_PuzzleText.f k a0 a1) (spec_PuzzleText.f (k + 1) a0 a1) := by
 intro a0 a1 k
 unfold spec_PuzzleText.f
 repeat' first | (with_reducible exact spec_pzGood.mono _ _ _) | (with_reducible exact spec_pzText.mono _ _ _) | (with_reducible exact LeO.refl _) | (with_reducible exact LeO.none _) | (with_reducible refine LeO.ite ?_ ?_) | (with_reducible refine LeO.bind ?_ (fun _ => ?_)) | exact spec_pzGood.mono _ _ _ | exact spec_pzText.mono _ _ _ | exact LeO.none _ | refine LeO.ite ?_ ?_ | refine LeO.bind ?_ (fun _ => ?_)
set_option maxHeartbeats 8000000 in
set_option maxRecDepth 100000 in
theorem spec_PuzzleText.calls (k : Nat) (a0_0 : Int) (A0_1 : Option Addr) (c0_1 : Nat) (l0_1 : List (S_impl_Clue)) (r1 : ByteArray) (r2 : Bool) (w : World) (hr0_1 : Kd.C kd_impl_Clue w A0_1 l0_1.length l0_1) (hc0_1 : l0_1.length ≤ c0_1) (h : spec_PuzzleText.f k a0_0 l0_1 = some (r1, r2)) :
  Calls Tryd.prog 11 #[.agg #[.int .i64 a0_0, .slice A0_1 l0_1.length c0_1]] w fun e w' => e = .returned (.tuple #[.string r1, .bool r2]) ∧ Below w.heap.size w w' := by
 have hu24 := Tryd.underlying24; have HR0_1 := aM hr0_1; have HC0_1 := aM hc0_1; clear hr0_1 hc0_1; have HB := aM (Below.refl w.heap.size w)
 unfold spec_PuzzleText.f at h; have H := h; clear h
 replace H := bS H; obtain ⟨t145, A2, H⟩ := H
 by_cases c3 : t145 = true
 ·subst c3; replace H := iT H; replace H := bS H; obtain ⟨t146, A4, H⟩ := H
  simp only [Option.some.injEq, Prod.mk.injEq] at H
  obtain ⟨rfl, rfl⟩ := H
  go_enter Tryd.func11, Tryd.ntmps11
  go_wp2_with (first | ((with_reducible refine gate_dst (N := 1) rfl ?_); refine bV 1 (cs := #[.int .i64 a0_0, .slice A0_1 l0_1.length c0_1]) (t := 24) rfl rfl (by first | (go_simp; done) | (go_simp; rfl)) ?_; intro gb144 hg w5 hbox hb; have BK144 := hbox; have GW144 := gZ HB hg; have GE144 := gZ HB hg; replace HB := tB HB hb; clear hb hbox hg; have hcz6_0 := vZ0 BK144; have hcz6_1 := vZ1 BK144; have hfz6_0 := kF BK144.out 0; have hfz6_1 := kF BK144.out 1) | ((with_reducible refine gC (f := 24) rfl ?_); refine goesL_ (some 5) rfl rfl Tryd.func24 kR rfl #[.agg #[.int .i64 a0_0, .slice A0_1 l0_1.length c0_1]] rfl sQ ?_; (with_reducible refine (spec_pzGood.calls k a0_0 _ _ l0_1 true _ ?side1 ?side2 A2.out).mono ?_); (case side1 => repeat (first | exact (Kd.C_below HR0_1.out HB.out) | (with_reducible refine cA ?_ _) | (with_reducible refine cN ?_ _) | (with_reducible refine cD ?_))); (case side2 => exact HC0_1.out); rintro e w7 ⟨rfl, hb⟩; refine ⟨_, rfl, ?_⟩; replace BK144 := bB BK144 hb; replace HB := tB HB hb; (try clear hb); (try clear hb2); (try clear hk); (try clear hi); have hcz8_0 := vZ0 BK144; have hcz8_1 := vZ1 BK144; have hfz8_0 := kF BK144.out 0; have hfz8_1 := kF BK144.out 1) | ((with_reducible refine gC (f := 25) rfl ?_); refine goesL_ (some 8) rfl rfl Tryd.func25 kR rfl #[.agg #[.int .i64 a0_0, .slice A0_1 l0_1.length c0_1]] rfl sQ ?_; (with_reducible refine (spec_pzText.calls k a0_0 _ _ l0_1 t146 _ ?side1 ?side2 A4.out).mono ?_); (case side1 => repeat (first | exact (Kd.C_below HR0_1.out HB.out) | (with_reducible refine cA ?_ _) | (with_reducible refine cN ?_ _) | (with_reducible refine cD ?_))); (case side2 => exact HC0_1.out); rintro e w9 ⟨rfl, hb⟩; refine ⟨_, rfl, ?_⟩; replace BK144 := bB BK144 hb; replace HB := tB HB hb; (try clear hb); (try clear hb2); (try clear hk); (try clear hi)))
  go_ret2
  exact ⟨wQ, bE⟩
 ·replace c3 := Bool.eq_false_iff.mpr c3; subst c3; replace H := iF H
  simp only [Option.some.injEq, Prod.mk.injEq] at H
  obtain ⟨rfl, rfl⟩ := H
  go_enter Tryd.func11, Tryd.ntmps11
  go_wp2_with (first | ((with_reducible refine gate_dst (N := 1) rfl ?_); refine bV 1 (cs := #[.int .i64 a0_0, .slice A0_1 l0_1.length c0_1]) (t := 24) rfl rfl (by first | (go_simp; done) | (go_simp; rfl)) ?_; intro gb144 hg w10 hbox hb; have BK144 := hbox; have GW144 := gZ HB hg; have GE144 := gZ HB hg; replace HB := tB HB hb; clear hb hbox hg; have hcz11_0 := vZ0 BK144; have hcz11_1 := vZ1 BK144; have hfz11_0 := kF BK144.out 0; have hfz11_1 := kF BK144.out 1) | ((with_reducible refine gC (f := 24) rfl ?_); refine goesL_ (some 5) rfl rfl Tryd.func24 kR rfl #[.agg #[.int .i64 a0_0, .slice A0_1 l0_1.length c0_1]] rfl sQ ?_; (with_reducible refine (spec_pzGood.calls k a0_0 _ _ l0_1 false _ ?side1 ?side2 A2.out).mono ?_); (case side1 => repeat (first | exact (Kd.C_below HR0_1.out HB.out) | (with_reducible refine cA ?_ _) | (with_reducible refine cN ?_ _) | (with_reducible refine cD ?_))); (case side2 => exact HC0_1.out); rintro e w12 ⟨rfl, hb⟩; refine ⟨_, rfl, ?_⟩; replace BK144 := bB BK144 hb; replace HB := tB HB hb; (try clear hb); (try clear hb2); (try clear hk); (try clear hi)))
  go_ret2
  exact ⟨wQ, bE⟩

def laws_toClue.f (a0_0 : Int) (a0_1 : Int) (a0_2 : Int) (a0_3 : Int) : Option (Int × Int × Int × Int) := some (a0_0, a0_1, a0_2, a0_3)
set_option maxHeartbeats 8000000 in
set_option maxRecDepth 100000 in
theorem laws_toClue.calls (a0_0 : Int) (a0_1 : Int) (a0_2 : Int) (a0_3 : Int) (r1 : Int) (r2 : Int) (r3 : Int) (r4 : Int) (w : World) (h : laws_toClue.f a0_0 a0_1 a0_2 a0_3 = some (r1, r2, r3, r4)) :
  Calls Tryd.prog 43 #[.agg #[.int .i64 a0_0, .int .i64 a0_1, .int .i64 a0_2, .int .i64 a0_3]] w fun e w' => e = .returned (.agg #[.int .i64 r1, .int .i64 r2, .int .i64 r3, .int .i64 r4]) ∧ Below w.heap.size w w' := by
 have hu67 := Tryd.underlying67; have hu48 := Tryd.underlying48; have HB := aM (Below.refl w.heap.size w)
 unfold laws_toClue.f at h; have H := h; clear h
 simp only [Option.some.injEq, Prod.mk.injEq] at H
 obtain ⟨rfl, rfl, rfl, rfl⟩ := H
 go_enter Tryd.func43, Tryd.ntmps43
 go_wp2_with (first | ((with_reducible refine gate_dst (N := 1) rfl ?_); refine bV 1 (cs := #[.int .i64 a0_0, .int .i64 a0_1, .int .i64 a0_2, .int .i64 a0_3]) (t := 67) rfl rfl (by first | (go_simp; done) | (go_simp; rfl)) ?_; intro gb147 hg w2 hbox hb; have BK147 := hbox; have GW147 := gZ HB hg; have GE147 := gZ HB hg; replace HB := tB HB hb; clear hb hbox hg) | ((with_reducible refine gate_dst (N := 2) rfl ?_); refine bV 2 (cs := #[.int .i64 0, .int .i64 0, .int .i64 0, .int .i64 0]) (t := 48) rfl rfl (by first | (go_simp; done) | (go_simp; rfl)) ?_; intro gb148 hg w3 hbox hb; have BK148 := hbox; have GW148 := gZ HB hg; have GE148 := gZ HB hg; have NB147_148 := nG BK147 hg; have NB148_147 := nH BK147 hg; replace BK147 := bB BK147 hb; replace HB := tB HB hb; clear hb hbox hg) | ((with_reducible refine gate_dst (N := 3) rfl ?_); refine bV 3 (cs := #[.int .i64 0, .int .i64 0, .int .i64 0, .int .i64 0]) (t := 48) rfl rfl (by first | (go_simp; done) | (go_simp; rfl)) ?_; intro gb149 hg w4 hbox hb; have BK149 := hbox; have GW149 := gZ HB hg; have GE149 := gZ HB hg; have NB147_149 := nG BK147 hg; have NB149_147 := nH BK147 hg; have NB148_149 := nG BK148 hg; have NB149_148 := nH BK148 hg; replace BK147 := bB BK147 hb; replace BK148 := bB BK148 hb; replace HB := tB HB hb; clear hb hbox hg; have hnb5 := NB147_148.out; have hnc5 := NB148_147.out; have hnb6 := NB147_149.out; have hnc6 := NB149_147.out; have hcz7_0 := vZ0 BK147; have hcz7_1 := vZ1 BK147; have hcz7_2 := vZ2 BK147; have hcz7_3 := vZ3 BK147; have hfz7_0 := kF BK147.out 0; have hfz7_1 := kF BK147.out 1; have hfz7_2 := kF BK147.out 2; have hfz7_3 := kF BK147.out 3; have hnb8 := NB149_148.out; have hnc8 := NB148_149.out; have hcz9_0 := vZ0 BK149; have hcz9_1 := vZ1 BK149; have hcz9_2 := vZ2 BK149; have hcz9_3 := vZ3 BK149; have hfz9_0 := kF BK149.out 0; have hfz9_1 := kF BK149.out 1; have hfz9_2 := kF BK149.out 2; have hfz9_3 := kF BK149.out 3; have hcz10_0 := vZ0 BK148; have hcz10_1 := vZ1 BK148; have hcz10_2 := vZ2 BK148; have hcz10_3 := vZ3 BK148; have hfz10_0 := kF BK148.out 0; have hfz10_1 := kF BK148.out 1; have hfz10_2 := kF BK148.out 2; have hfz10_3 := kF BK148.out 3))
 refine bodyPost_ret (results_cell_row rfl _ _ gb148 48 #[.int .i64 a0_0, .int .i64 a0_1, .int .i64 a0_2, .int .i64 a0_3] (0, 0) _ rfl (fQ BK148) Tryd.underlying48 rfl kR) rfl ?_
 exact ⟨wQ, bE⟩

end Go.Proofs.YtoeclfihlhmnpaaDoor.X
