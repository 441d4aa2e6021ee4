-- thin
-- short
-- compact
import Derived.Test.YtoeclfihlhmnpaaDoorXA
import Derived.Test.YtoeclfihlhmnpaaDoorX0
import Derived.Test.YtoeclfihlhmnpaaDoorX6
import Derived.Test.YtoeclfihlhmnpaaDoorX7
import Derived.Test.YtoeclfihlhmnpaaDoorXW5
namespace Go.Proofs.YtoeclfihlhmnpaaDoor.X
open Go.RowKit Go.Proofs.YtoeclfihlhmnpaaDoor.XW Go.Proofs.YtoeclfihlhmnpaaDoorW.PrintWords Go.Proofs.YtoeclfihlhmnpaaDoorW.PrintLast Go.Proofs.YtoeclfihlhmnpaaDoorW.PrintMore
attribute [local go_sem] max2_int min2_int max_two min_two max_three min_three max_four min_four   -- for this text's walks alone
set_option linter.unusedVariables false
set_option linter.unusedSimpArgs false

def impl_puzzleText.l0 : Nat → List ByteArray → List (S_impl_Clue) → Int → Int → Int → List (S_impl_Clue) → Option (ByteArray)
 | 0, _, _, _, _, _, _ => none
 | k + 1, x3, x8, x9, x10, x196000, x196001 => if x10 < x9 then (if 0 ≤ x10 then (if x10 < (x8.length : Int) then ((strconv_Itoa_37.f ((rd_impl_Clue x8 x10).f0)).bind fun t203 => (if t203.size + 1 ≤ 9223372036854775807 then ((strconv_Itoa_37.f ((rd_impl_Clue x8 x10).f1)).bind fun t204 => (if (t203 ++ (⟨#[46]⟩ : ByteArray)).size + t204.size ≤ 9223372036854775807 then (if ((t203 ++ (⟨#[46]⟩ : ByteArray)) ++ t204).size + 1 ≤ 9223372036854775807 then ((strconv_Itoa_37.f ((rd_impl_Clue x8 x10).f2)).bind fun t205 => (if (((t203 ++ (⟨#[46]⟩ : ByteArray)) ++ t204) ++ (⟨#[46]⟩ : ByteArray)).size + t205.size ≤ 9223372036854775807 then (if ((((t203 ++ (⟨#[46]⟩ : ByteArray)) ++ t204) ++ (⟨#[46]⟩ : ByteArray)) ++ t205).size + 1 ≤ 9223372036854775807 then ((strconv_Itoa_37.f ((rd_impl_Clue x8 x10).f3)).bind fun t206 => (if (((((t203 ++ (⟨#[46]⟩ : ByteArray)) ++ t204) ++ (⟨#[46]⟩ : ByteArray)) ++ t205) ++ (⟨#[46]⟩ : ByteArray)).size + t206.size ≤ 9223372036854775807 then (if x3.length < 8796093022208 then (impl_puzzleText.l0 k (x3 ++ [(((((t203 ++ (⟨#[46]⟩ : ByteArray)) ++ t204) ++ (⟨#[46]⟩ : ByteArray)) ++ t205) ++ (⟨#[46]⟩ : ByteArray)) ++ t206]) x8 x9 (wrap64 (x10 + 1)) x196000 x196001) else (none)) else (none))) else (none)) else (none))) else (none)) else (none))) else (none))) else (none)) else (none)) else ((strconv_Itoa_37.f x196000).bind fun t199 => (if t199.size + 1 ≤ 9223372036854775807 then ((strings_Join.f x3 (⟨#[44]⟩ : ByteArray)).bind fun t200 => (if (t199 ++ (⟨#[58]⟩ : ByteArray)).size + t200.size ≤ 9223372036854775807 then (some ((t199 ++ (⟨#[58]⟩ : ByteArray)) ++ t200)) else (none))) else (none)))
def impl_puzzleText.f (k : Nat) (a0_0 : Int) (l0_1 : List (S_impl_Clue)) : Option (ByteArray) := impl_puzzleText.l0 k (([] : List ByteArray)) l0_1 (l0_1.length : Int) 0 a0_0 l0_1
theorem impl_puzzleText.mono_l : ∀ k, (∀ y0 y1 y2 y3 y4 y5, LeO (impl_puzzleText.l0 k y0 y1 y2 y3 y4 y5) (impl_puzzleText.l0 (k + 1) y0 y1 y2 y3 y4 y5))
 | 0 => fun _ _ _ _ _ _ r h => by simp [impl_puzzleText.l0] at h
 | k + 1 => by
  have ih0 := impl_puzzleText.mono_l k
  ·intro y0 y1 y2 y3 y4 y5
   unfold impl_puzzleText.l0
   repeat' first
   | (with_reducible exact ih0 _ _ _ _ _ _)
   | (with_reducible exact LeO.refl _)
   | (with_reducible exact LeO.none _)
   | (with_reducible refine LeO.ite ?_ ?_)
   | (with_reducible refine LeO.bind ?_ (fun _ => ?_))
   | exact ih0 _ _ _ _ _ _
   | exact LeO.none _
   | refine LeO.ite ?_ ?_
   | refine LeO.bind ?_ (fun _ => ?_)
theorem impl_puzzleText.mono : ∀ a0 a1 k, LeO (impl_puzzleText.f k a0 a1) (impl_puzzleText.f (k + 1) a0 a1) := by
 intro a0 a1 k
 have ih0 := impl_puzzleText.mono_l k
 unfold impl_puzzleText.f
 repeat' first | (with_reducible exact ih0 _ _ _ _ _ _) | (with_reducible exact LeO.refl _) | (with_reducible exact LeO.none _) | (with_reducible refine LeO.ite ?_ ?_) | (with_reducible refine LeO.bind ?_ (fun _ => ?_)) | exact ih0 _ _ _ _ _ _ | exact LeO.none _ | refine LeO.ite ?_ ?_ | refine LeO.bind ?_ (fun _ => ?_)
def impl_puzzleText.T5 : Bool × List (List Nat × List Nat) := (true, [([], []), ([], []), ([1], [1]), ([2], [2]), ([3], [3]), ([], []), ([5], [5]), ([6, 3], [6]), ([4, 7], [4, 7]), ([8], [8]), ([], []), ([10], [10]), ([11, 7], [11]), ([9, 12], [9, 12]), ([13], [13]), ([], []), ([15], [15]), ([16, 12], [16]), ([14, 17], [14, 17]), ([18], [18]), ([0, 19, 17], [0, 19]), ([20, 20, 0, 1, 2, 3, 4, 5, 6, 7, 8, 9, 10, 11, 12, 13, 14, 15, 16, 17, 18, 19, 20], [0, 20])])
def impl_puzzleText.B5 : List Nat := [0, 0, 2, 6, 14, 0, 32, 110, 254, 510, 0, 1024, 3310, 8190, 16382, 0, 32768, 105710, 262142, 524286, 1048575, 2097151]
theorem impl_puzzleText.tab5 : rtab .any (opsOf Tryd.f19 5) = impl_puzzleText.T5 := by kernel_rfl
theorem impl_puzzleText.bits5 : waitsOk impl_puzzleText.T5.2 impl_puzzleText.B5 = true := by kernel_rfl
set_option maxHeartbeats 8000000 in
set_option maxRecDepth 100000 in
theorem impl_puzzleText.calls (k : Nat) (a0_0 : Int) (A0_1 : Option Addr) (c0_1 : Nat) (l0_1 : List (S_impl_Clue)) (r : ByteArray) (w : World) (hr0_1 : Kd.C kd_impl_Clue w A0_1 l0_1.length l0_1) (hc0_1 : l0_1.length ≤ c0_1) (h : impl_puzzleText.f k a0_0 l0_1 = some r) (HT : Aside0 (Tab w) := by first | assumption | exact Tab.below (by assumption) (by repeat (first | (with_reducible first | exact HB.out | apply pw_below_alloc | apply pN | apply below_drew | refine pS ?_ (Aside0.out (by with_reducible assumption))) | exact HB.out))) :
  Calls Tryd.prog 19 #[.agg #[.int .i64 a0_0, .slice A0_1 l0_1.length c0_1]] w fun e w' => e = .returned (.string r) ∧ Below w.heap.size w w' := by
 have hu24 := Tryd.underlying24; have hu48 := Tryd.underlying48; have HR0_1 := aM hr0_1; have HC0_1 := aM hc0_1; clear hr0_1 hc0_1; have HB := aM (Below.refl w.heap.size w)
 unfold impl_puzzleText.f at h; have H := h; clear h
 obtain ⟨y196, hy196⟩ : ∃ y_ : List ByteArray, y_ = (([] : List ByteArray)) := ⟨_, rfl⟩; rw [← hy196] at H; have Ny196 := aM hy196; clear hy196; have H' := aM H; clear H
 go_enter Tryd.func19, Tryd.ntmps19
 go_wp2_with (first | ((with_reducible refine gate_dst (N := 1) rfl ?_); refine bV 1 (cs := #[.int .i64 a0_0, .slice A0_1 l0_1.length c0_1]) (t := 24) rfl rfl (by first | (go_simp; done) | (go_simp; rfl)) ?_; intro gb195 hg w2 hbox hb; have BK195 := hbox; have GW195 := gZ HB hg; have GE195 := gZ HB hg; replace HB := tB HB hb; clear hb hbox hg) | ((with_reducible refine gate_dst (N := 6) rfl ?_); refine Kd.R_lit Kd.string _ 9 ?hg (N := 6) ?hd (xs := ([] : List ByteArray)) (inner := []) (ok := fun _ => True) (okp := fun _ => True) ?hr ?hp (fun _ hk => hk) trivial (Below.refl _ _) (Nat.le_refl _) (by simp) ?_; (case hd => rfl); (case hg => rfl); (case hr => first | (go_simp; done) | (go_simp; rfl)); (case hp => exact (Reps.none _ _)); intro v197 w3 ho4 hb hg_ hnew_; clear hg_ hnew_; (first | rw [← Ny196.out] at ho4 | (simp only [Int.reduceToNat] at ho4; rw [← Ny196.out] at ho4)); have HO198 := aM (Kd.R_lower ho4 (pZ bE)); replace BK195 := bB BK195 hb; replace HB := tB HB hb; clear hb ho4; have hcz5_0 := vZ0 BK195; have hcz5_1 := vZ1 BK195; have hfz5_0 := kF BK195.out 0; have hfz5_1 := kF BK195.out 1))
 go_loopg [3, 10] k (fun kq v3 v10 w' => ∃ (x3_1 : List ByteArray) (x10_1 : Int), v10 = .int .i64 x10_1 ∧ Aside0 (impl_puzzleText.l0 kq x3_1 l0_1 (l0_1.length : Int) x10_1 a0_0 l0_1 = some r) ∧ Aside0 (kq ≤ k) ∧ Aside0 (Kd.R Kd.string 9 w' w.heap.size (fun _ => True) v3 x3_1) ∧ Aside0 (w'.heap[gb195]? = some (.cells #[.int .i64 a0_0, (.slice A0_1 l0_1.length c0_1)] 24 (0, 0))) ∧ Aside0 (Below w.heap.size w w'))
 case atStart => exact ⟨(y196), (0), eQ, H', ⟨Nat.le_refl _⟩, ⟨by (with_reducible repeat (first | apply rA | apply rN | apply rD)); exact HO198.out⟩, ⟨gQ BK195⟩, ⟨bE⟩⟩
 case round =>
  clear H'; (try clear hcz5_0); (try clear hcz5_1); (try clear hfz5_0); (try clear hfz5_1); obtain ⟨x3_1, x10_1, rfl, HA, HK1, HO_3, BK195, HB⟩ := hrel
  cases gk with
  | zero => exact absurd HA.out (by simp [impl_puzzleText.l0])
  | succ k1 =>
   have H := HA.out; clear HA
   simp only [impl_puzzleText.l0] at H
   by_cases c6 : x10_1 < (l0_1.length : Int)
   ·rw [if_pos c6] at H; have c6b0 := dE c6; clear c6; replace H := iD H; obtain ⟨c7b0, H⟩ := H; replace H := iD H; obtain ⟨c8b0, H⟩ := H; replace H := bS H; obtain ⟨t203, A9, H⟩ := H; replace H := iN H; obtain ⟨c10, H⟩ := H; have c10b0 := eq_true c10; have c10b1 := dE c10
    try have c10b2 : (9223372036854775807 < t203.size + 1) = False := eq_false (Nat.not_lt.2 c10)
    replace H := bS H; obtain ⟨t204, A11, H⟩ := H; replace H := iN H; obtain ⟨c12, H⟩ := H; have c12b0 := eq_true c12; have c12b1 := dE c12
    try have c12b2 : (9223372036854775807 < (t203 ++ (⟨#[46]⟩ : ByteArray)).size + t204.size) = False := eq_false (Nat.not_lt.2 c12)
    (try have c12b2s := c12b2); (try simp only [ByteArray.size_append, sz1] at c12b2s)
    replace H := iN H; obtain ⟨c13, H⟩ := H; have c13b0 := eq_true c13; have c13b1 := dE c13
    try have c13b2 : (9223372036854775807 < ((t203 ++ (⟨#[46]⟩ : ByteArray)) ++ t204).size + 1) = False := eq_false (Nat.not_lt.2 c13)
    (try have c13b2s := c13b2); (try simp only [ByteArray.size_append, sz1] at c13b2s)
    replace H := bS H; obtain ⟨t205, A14, H⟩ := H; replace H := iN H; obtain ⟨c15, H⟩ := H; have c15b0 := eq_true c15; have c15b1 := dE c15
    try have c15b2 : (9223372036854775807 < (((t203 ++ (⟨#[46]⟩ : ByteArray)) ++ t204) ++ (⟨#[46]⟩ : ByteArray)).size + t205.size) = False := eq_false (Nat.not_lt.2 c15)
    (try have c15b2s := c15b2); (try simp only [ByteArray.size_append, sz1] at c15b2s)
    replace H := iN H; obtain ⟨c16, H⟩ := H; have c16b0 := eq_true c16; have c16b1 := dE c16
    try have c16b2 : (9223372036854775807 < ((((t203 ++ (⟨#[46]⟩ : ByteArray)) ++ t204) ++ (⟨#[46]⟩ : ByteArray)) ++ t205).size + 1) = False := eq_false (Nat.not_lt.2 c16)
    (try have c16b2s := c16b2); (try simp only [ByteArray.size_append, sz1] at c16b2s)
    replace H := bS H; obtain ⟨t206, A17, H⟩ := H; replace H := iN H; obtain ⟨c18, H⟩ := H; have c18b0 := eq_true c18; have c18b1 := dE c18
    try have c18b2 : (9223372036854775807 < (((((t203 ++ (⟨#[46]⟩ : ByteArray)) ++ t204) ++ (⟨#[46]⟩ : ByteArray)) ++ t205) ++ (⟨#[46]⟩ : ByteArray)).size + t206.size) = False := eq_false (Nat.not_lt.2 c18)
    (try have c18b2s := c18b2); (try simp only [ByteArray.size_append, sz1] at c18b2s)
    replace H := iN H; obtain ⟨c19, H⟩ := H; have LMc19 := aM c19; clear c19; obtain ⟨y207, hy207⟩ : ∃ y_ : List ByteArray, y_ = (x3_1 ++ [(((((t203 ++ (⟨#[46]⟩ : ByteArray)) ++ t204) ++ (⟨#[46]⟩ : ByteArray)) ++ t205) ++ (⟨#[46]⟩ : ByteArray)) ++ t206]) := ⟨_, rfl⟩; rw [← hy207] at H; have Ny207 := aM hy207; clear hy207; have H' := aM H; clear H; have p201 : 0 ≤ (x10_1 : Int) := dT aQ; have q201 : x10_1 < (l0_1.length : Int) := dT aQ; obtain ⟨ad201, e201, hx201_0, hx201_1, hx201_2, hx201_3⟩ := at_impl_Clue HR0_1.out x10_1 p201 q201
    cases e201
    replace hx201_0 := hC HB hx201_0; replace hx201_1 := hC HB hx201_1; replace hx201_2 := hC HB hx201_2; replace hx201_3 := hC HB hx201_3; replace p201 := eq_true p201; replace q201 := eq_true q201
    try go_wp2_with (first | ((with_reducible refine gate_dst (N := 5) rfl ?_); refine bV 5 (cs := #[.int .i64 0, .int .i64 0, .int .i64 0, .int .i64 0]) (t := 48) rfl rfl (by first | (go_simp; done) | (go_simp; rfl)) ?_; intro gb202 hg w20 hbox hb; have BK202 := hbox; have GW202 := gZ HB hg; have GE202 := gZ HB hg; have NB195_202 := nG BK195 hg; have NB202_195 := nH BK195 hg; replace HO_3 := aM (Kd.R_below (by (with_reducible repeat (first | apply rA | apply rN | apply rD)); exact HO_3.out) hb); replace BK195 := bB BK195 hb; replace HB := tB HB hb; clear hb hbox hg; have hnb21 := NB202_195.out; have hnc21 := NB195_202.out; have hcz22_0 := vZ0 BK202; have hcz22_1 := vZ1 BK202; have hcz22_2 := vZ2 BK202; have hcz22_3 := vZ3 BK202; have hfz22_0 := kF BK202.out 0; have hfz22_1 := kF BK202.out 1; have hfz22_2 := kF BK202.out 2; have hfz22_3 := kF BK202.out 3))
    have n0_ : Aside0 (Kd.R Kd.string 9 ((((w20.setCell ⟨gb202, 0, none⟩ (.int .i64 ((rd_impl_Clue l0_1 x10_1).f0))).setCell ⟨gb202, 1, none⟩ (.int .i64 ((rd_impl_Clue l0_1 x10_1).f1))).setCell ⟨gb202, 2, none⟩ (.int .i64 ((rd_impl_Clue l0_1 x10_1).f2))).setCell ⟨gb202, 3, none⟩ (.int .i64 ((rd_impl_Clue l0_1 x10_1).f3))) w.heap.size (fun _ => True) u3 x3_1) := ⟨by (with_reducible repeat (first | apply rA | apply rN | apply rD)); exact Kd.R_mono (Kd.R_far (p := ⟨gb202, 3, none⟩) (Kd.R_far (p := ⟨gb202, 2, none⟩) (Kd.R_far (p := ⟨gb202, 1, none⟩) (Kd.R_far (p := ⟨gb202, 0, none⟩) (Kd.R_types HO_3.out BK202.out (by decide)) (fun _ hk => hk.2) (.int .i64 ((rd_impl_Clue l0_1 x10_1).f0))) (fun _ hk => hk.2) (.int .i64 ((rd_impl_Clue l0_1 x10_1).f1))) (fun _ hk => hk.2) (.int .i64 ((rd_impl_Clue l0_1 x10_1).f2))) (fun _ hk => hk.2) (.int .i64 ((rd_impl_Clue l0_1 x10_1).f3))) (fun _ hk => trivial)⟩
    have n1_ : Aside0 (((((w20.setCell ⟨gb202, 0, none⟩ (.int .i64 ((rd_impl_Clue l0_1 x10_1).f0))).setCell ⟨gb202, 1, none⟩ (.int .i64 ((rd_impl_Clue l0_1 x10_1).f1))).setCell ⟨gb202, 2, none⟩ (.int .i64 ((rd_impl_Clue l0_1 x10_1).f2))).setCell ⟨gb202, 3, none⟩ (.int .i64 ((rd_impl_Clue l0_1 x10_1).f3))).heap[gb195]? = some (.cells #[.int .i64 a0_0, .slice (some ad201) l0_1.length c0_1] 24 (0, 0))) := ⟨fQ BK195⟩; have n2_ : Aside0 (((((w20.setCell ⟨gb202, 0, none⟩ (.int .i64 ((rd_impl_Clue l0_1 x10_1).f0))).setCell ⟨gb202, 1, none⟩ (.int .i64 ((rd_impl_Clue l0_1 x10_1).f1))).setCell ⟨gb202, 2, none⟩ (.int .i64 ((rd_impl_Clue l0_1 x10_1).f2))).setCell ⟨gb202, 3, none⟩ (.int .i64 ((rd_impl_Clue l0_1 x10_1).f3))).heap[gb202]? = some (.cells #[.int .i64 ((rd_impl_Clue l0_1 x10_1).f0), .int .i64 ((rd_impl_Clue l0_1 x10_1).f1), .int .i64 ((rd_impl_Clue l0_1 x10_1).f2), .int .i64 ((rd_impl_Clue l0_1 x10_1).f3)] 48 (0, 0))) := ⟨fQ BK202⟩; have n3_ : Aside0 (Below w.heap.size w ((((w20.setCell ⟨gb202, 0, none⟩ (.int .i64 ((rd_impl_Clue l0_1 x10_1).f0))).setCell ⟨gb202, 1, none⟩ (.int .i64 ((rd_impl_Clue l0_1 x10_1).f1))).setCell ⟨gb202, 2, none⟩ (.int .i64 ((rd_impl_Clue l0_1 x10_1).f2))).setCell ⟨gb202, 3, none⟩ (.int .i64 ((rd_impl_Clue l0_1 x10_1).f3)))) := ⟨bE⟩; (try clear HO_3); (try clear BK195); (try clear BK202); (try clear HB)
    generalize ((((w20.setCell ⟨gb202, 0, none⟩ (.int .i64 ((rd_impl_Clue l0_1 x10_1).f0))).setCell ⟨gb202, 1, none⟩ (.int .i64 ((rd_impl_Clue l0_1 x10_1).f1))).setCell ⟨gb202, 2, none⟩ (.int .i64 ((rd_impl_Clue l0_1 x10_1).f2))).setCell ⟨gb202, 3, none⟩ (.int .i64 ((rd_impl_Clue l0_1 x10_1).f3))) = w23 at n0_ n1_ n2_ n3_ ⊢
    have HO_3 := n0_; have BK195 := n1_; have BK202 := n2_; have HB := n3_; clear n0_ n1_ n2_ n3_; replace HO_3 := aM (rD HO_3.out); replace BK195 := aM (kD BK195.out); replace BK202 := aM (kD BK202.out); replace HB := aM (pD HB.out)
    refine start_ (n := 22) (S := fun w' => w'.cell? ⟨gb202, 0, none⟩ = some (.int .i64 ((rd_impl_Clue l0_1 x10_1).f0)) ∧ w'.cell? ⟨gb202, 1, none⟩ = some (.int .i64 ((rd_impl_Clue l0_1 x10_1).f1)) ∧ w'.cell? ⟨gb202, 2, none⟩ = some (.int .i64 ((rd_impl_Clue l0_1 x10_1).f2)) ∧ w'.cell? ⟨gb202, 3, none⟩ = some (.int .i64 ((rd_impl_Clue l0_1 x10_1).f3))) (ds := []) (bA 22 0) kR rfl kR ⟨vZ0 BK202, vZ1 BK202, vZ2 BK202, vZ3 BK202⟩ (fun hHeld => ?_); refine with_tabW impl_puzzleText.tab5 impl_puzzleText.bits5 (fun HT_ HW_ => ?_)
    generalize w23.drew = w24 at HO_3 BK195 BK202 HB hHeld ⊢
    refine pU 0 14 (bA 22 1) HT_ ?_; refine pU 1 15 (bA 22 3) HT_ ?_; refine pU 5 19 (bA 22 35) HT_ ?_; refine pU 10 24 (bA 22 1059) HT_ ?_; refine pU 15 29 (bA 22 33827) HT_ ?_
    refine tU 2 16 (bA 22 33831) HT_ HW_ hHeld ?_ (hy := Or.inl ⟨by rfl, by rintro w' ⟨s0, s1, s2, s3⟩; go_simp; with_reducible rfl⟩)
    refine tU 6 20 (bA 22 33895) HT_ HW_ hHeld ?_ (hy := Or.inl ⟨by rfl, by rintro w' ⟨s0, s1, s2, s3⟩; go_simp; with_reducible rfl⟩)
    refine tU 11 25 (bA 22 35943) HT_ HW_ hHeld ?_ (hy := Or.inl ⟨by rfl, by rintro w' ⟨s0, s1, s2, s3⟩; go_simp; with_reducible rfl⟩)
    refine tU 16 30 (bA 22 101479) HT_ HW_ hHeld ?_ (hy := Or.inl ⟨by rfl, by rintro w' ⟨s0, s1, s2, s3⟩; go_simp; with_reducible rfl⟩)
    refine oU 3 17 (bA 22 101487) HT_ (fun K hK => ?_)
    refine goes_ Tryd.func37 kR rfl #[.int .i64 ((rd_impl_Clue l0_1 x10_1).f0)] (by rfl) rfl rfl sQ ?_
    with_reducible refine (strconv_Itoa_37.calls ((rd_impl_Clue l0_1 x10_1).f0) t203 _ A9.out).mono ?_
    rintro e w25 ⟨rfl, hb⟩; refine ⟨_, rfl, ?_⟩; replace HO_3 := aM (Kd.R_below (by (with_reducible repeat (first | apply rA | apply rN | apply rD)); exact HO_3.out) hb); replace BK195 := bB BK195 hb; replace BK202 := bB BK202 hb; replace HB := tB HB hb
    (try clear hb); (try clear hb2); (try clear hk); (try clear hi)
    refine hK.out _ _ ⟨vZ0 BK202, vZ1 BK202, vZ2 BK202, vZ3 BK202⟩ (fun hHeld => ?_)
    clear hK K
    refine nU ?_
    refine pU 4 18 (bA 22 101503) HT_ ?_
    refine oU 7 21 (bA 22 101631) HT_ (fun K hK => ?_)
    refine goes_ Tryd.func37 kR rfl #[.int .i64 ((rd_impl_Clue l0_1 x10_1).f1)] (by rfl) rfl rfl sQ ?_
    with_reducible refine (strconv_Itoa_37.calls ((rd_impl_Clue l0_1 x10_1).f1) t204 _ A11.out).mono ?_
    rintro e w26 ⟨rfl, hb⟩; refine ⟨_, rfl, ?_⟩; replace HO_3 := aM (Kd.R_below (by (with_reducible repeat (first | apply rA | apply rN | apply rD)); exact HO_3.out) hb); replace BK195 := bB BK195 hb; replace BK202 := bB BK202 hb; replace HB := tB HB hb
    (try clear hb); (try clear hb2); (try clear hk); (try clear hi)
    refine hK.out _ _ ⟨vZ0 BK202, vZ1 BK202, vZ2 BK202, vZ3 BK202⟩ (fun hHeld => ?_)
    clear hK K
    refine nU ?_
    refine pU 8 22 (bA 22 101887) HT_ ?_; refine pU 9 23 (bA 22 102399) HT_ ?_
    refine oU 12 26 (bA 22 106495) HT_ (fun K hK => ?_)
    refine goes_ Tryd.func37 kR rfl #[.int .i64 ((rd_impl_Clue l0_1 x10_1).f2)] (by rfl) rfl rfl sQ ?_
    with_reducible refine (strconv_Itoa_37.calls ((rd_impl_Clue l0_1 x10_1).f2) t205 _ A14.out).mono ?_
    rintro e w27 ⟨rfl, hb⟩; refine ⟨_, rfl, ?_⟩; replace HO_3 := aM (Kd.R_below (by (with_reducible repeat (first | apply rA | apply rN | apply rD)); exact HO_3.out) hb); replace BK195 := bB BK195 hb; replace BK202 := bB BK202 hb; replace HB := tB HB hb
    (try clear hb); (try clear hb2); (try clear hk); (try clear hi)
    refine hK.out _ _ ⟨vZ0 BK202, vZ1 BK202, vZ2 BK202, vZ3 BK202⟩ (fun hHeld => ?_)
    clear hK K
    refine nU ?_
    refine pU 13 27 (bA 22 114687) HT_ ?_; refine pU 14 28 (bA 22 131071) HT_ ?_
    refine oU 17 31 (bA 22 262143) HT_ (fun K hK => ?_)
    refine goes_ Tryd.func37 kR rfl #[.int .i64 ((rd_impl_Clue l0_1 x10_1).f3)] (by rfl) rfl rfl sQ ?_
    with_reducible refine (strconv_Itoa_37.calls ((rd_impl_Clue l0_1 x10_1).f3) t206 _ A17.out).mono ?_
    rintro e w28 ⟨rfl, hb⟩; refine ⟨_, rfl, ?_⟩; replace HO_3 := aM (Kd.R_below (by (with_reducible repeat (first | apply rA | apply rN | apply rD)); exact HO_3.out) hb); replace BK195 := bB BK195 hb; replace BK202 := bB BK202 hb; replace HB := tB HB hb
    (try clear hb); (try clear hb2); (try clear hk); (try clear hi)
    refine hK.out _ _ ⟨vZ0 BK202, vZ1 BK202, vZ2 BK202, vZ3 BK202⟩ (fun hHeld => ?_)
    clear hK K
    refine nU ?_
    refine pU 18 32 (bA 22 524287) HT_ ?_
    refine oU 19 33 (bA 22 1048575) HT_ (fun K hK => ?_)
    refine value_ (w1 := ?_) (v := ?_) (by rfl) rfl ?_ ?_
    rotate_left 2
    ·go_simp
     constructor
     ·rfl
     ·rfl
    refine hK.out _ _ ⟨(kC (kA BK202.out _) 0).trans rfl, (kC (kA BK202.out _) 1).trans rfl, (kC (kA BK202.out _) 2).trans rfl, (kC (kA BK202.out _) 3).trans rfl⟩ (fun hHeld => ?_)
    clear hK K
    refine nU ?_
    refine oU 20 34 (bA 22 2097151) HT_ (fun K hK => ?_)
    refine Kd.R_append_step Kd.string (w0 := w) w.heap.size (by rfl) (.tmp 14) (.tmp 33) 44 9 (.string ⟨#[]⟩) 16 rfl Tryd.underlying44 info9 rfl (by decide) (by omega) u3 x3_1 ((((((t203 ++ (⟨#[46]⟩ : ByteArray)) ++ t204) ++ (⟨#[46]⟩ : ByteArray)) ++ t205) ++ (⟨#[46]⟩ : ByteArray)) ++ t206) [.string ((((((t203 ++ (⟨#[46]⟩ : ByteArray)) ++ t204) ++ (⟨#[46]⟩ : ByteArray)) ++ t205) ++ (⟨#[46]⟩ : ByteArray)) ++ t206)] (fun _ => True) (fun _ => False) rfl rfl ?aP (fun _ hk => hk.elim) ?aF ?aO ?aB ?aS ?aL ?_
    (case aP => exact rfl)
    (case aB => exact bE)
    (case aF => exact (fun _ _ => trivial))
    (case aO => exact (by (with_reducible repeat (first | apply rA | apply rN | apply rD)); exact HO_3.out))
    (case aS => exact (pZ bE))
    (case aL => have := LMc19.out; omega)
    intro v208 w29 ho hb hg hat
    rw [← Ny207.out] at ho; have n0_ := aM (blk_grown (g := gb195) (o := .cells #[.int .i64 a0_0, .slice (some ad201) l0_1.length c0_1] 24 (0, 0)) (gQ BK195) hg (Kd.R_ne HO_3.out BK195.out (by decide)))
    have n1_ := aM (blk_grown (g := gb202) (o := .cells #[.int .i64 ((rd_impl_Clue l0_1 x10_1).f0), .int .i64 ((rd_impl_Clue l0_1 x10_1).f1), .int .i64 ((rd_impl_Clue l0_1 x10_1).f2), .int .i64 ((rd_impl_Clue l0_1 x10_1).f3)] 48 (0, 0)) (gQ BK202) hg (Kd.R_ne HO_3.out BK202.out (by decide)))
    have n2_ := aM (hb); have n3_ := aM (ho); clear BK195; clear BK202; clear HB; clear HO_3; have BK195 := n0_; have BK202 := n1_; have HB := n2_; have HO209 := n3_; clear n0_ n1_ n2_ n3_; clear ho hb hg hat
    refine hK.out _ _ ⟨vZ0 BK202, vZ1 BK202, vZ2 BK202, vZ3 BK202⟩ (fun hHeld => ?_)
    clear hK K
    refine nU ?_
    refine pU 21 3 (bA 22 4194303) HT_ ?_
    refine done_ (done_of HT_.out kR) ?_
    try go_wp2
    go_roundg k1
    case measure => have := HK1.out; omega
    case rel => exact ⟨(y207), (wrap64 (x10_1 + 1)), eQ, H', ⟨by have := HK1.out; omega⟩, ⟨by (with_reducible repeat (first | apply rA | apply rN | apply rD)); exact HO209.out⟩, ⟨gQ BK195⟩, ⟨bE⟩⟩
   ·rw [if_neg c6] at H; have c6b0 := decide_eq_false c6; clear c6; replace H := bS H; obtain ⟨t199, A30, H⟩ := H; replace H := iN H; obtain ⟨c31, H⟩ := H; have c31b0 := eq_true c31; have c31b1 := dE c31
    try have c31b2 : (9223372036854775807 < t199.size + 1) = False := eq_false (Nat.not_lt.2 c31)
    replace H := bS H; obtain ⟨t200, A32, H⟩ := H; replace H := iN H; obtain ⟨c33, H⟩ := H; have c33b0 := eq_true c33; have c33b1 := dE c33
    try have c33b2 : (9223372036854775807 < (t199 ++ (⟨#[58]⟩ : ByteArray)).size + t200.size) = False := eq_false (Nat.not_lt.2 c33)
    (try have c33b2s := c33b2); (try simp only [ByteArray.size_append, sz1] at c33b2s)
    obtain rfl := Option.some.inj H; have hcz34_0 : wr.cell? ⟨gb195, 0, none⟩ = some (.int .i64 a0_0) := vZ0 BK195; have hcz34_1 : wr.cell? ⟨gb195, 1, none⟩ = some (.slice A0_1 l0_1.length c0_1) := vZ1 BK195; have hfz34_0 := kF BK195.out 0; have hfz34_1 := kF BK195.out 1
    go_wp2_with (first | ((with_reducible refine gC (f := 37) rfl ?_); refine goesL_ (some 38) rfl rfl Tryd.func37 kR rfl #[.int .i64 a0_0] rfl sQ ?_; (with_reducible refine (strconv_Itoa_37.calls a0_0 t199 _ A30.out).mono ?_); rintro e w35 ⟨rfl, hb⟩; refine ⟨_, rfl, ?_⟩; replace HO_3 := aM (Kd.R_below (by (with_reducible repeat (first | apply rA | apply rN | apply rD)); exact HO_3.out) hb); replace BK195 := bB BK195 hb; replace HB := tB HB hb; (try clear hb); (try clear hb2); (try clear hk); (try clear hi); obtain ⟨Ao36, co36, eo36⟩ := Kd.R_slice HO_3.out; subst eo36) | ((with_reducible refine gC (f := 38) rfl ?_); refine goesL_ (some 41) rfl rfl Tryd.func38 kR rfl #[.slice Ao36 x3_1.length co36, .string (⟨#[44]⟩ : ByteArray)] rfl sQ ?_; (with_reducible refine (strings_Join.calls _ _ x3_1 (⟨#[44]⟩ : ByteArray) t200 _ ?side1 ?side2 A32.out).mono ?_); (case side1 => repeat (first | exact (rR HO_3.out).2.2 | (with_reducible refine cA ?_ _) | (with_reducible refine cN ?_ _) | (with_reducible refine cD ?_))); (case side2 => exact (rR HO_3.out).2.1); rintro e w37 ⟨rfl, hb⟩; refine ⟨_, rfl, ?_⟩; replace HO_3 := aM (Kd.R_below (by (with_reducible repeat (first | apply rA | apply rN | apply rD)); exact HO_3.out) hb); replace BK195 := bB BK195 hb; replace HB := tB HB hb; (try clear hb); (try clear hb2); (try clear hk); (try clear hi)))
    go_ret
    exact ⟨wQ, bE⟩
end Go.Proofs.YtoeclfihlhmnpaaDoor.X
