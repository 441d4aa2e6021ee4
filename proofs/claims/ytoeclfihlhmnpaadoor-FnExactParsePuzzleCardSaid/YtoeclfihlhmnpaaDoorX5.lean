-- thin
-- short
-- compact
import Derived.Test.YtoeclfihlhmnpaaDoorXA
import Derived.Test.YtoeclfihlhmnpaaDoorX0
import Derived.Test.YtoeclfihlhmnpaaDoorX2
import Derived.Test.YtoeclfihlhmnpaaDoorX3
import Derived.Test.YtoeclfihlhmnpaaDoorX4
namespace Go.Proofs.YtoeclfihlhmnpaaDoor.X
open Go.RowKit Go.Proofs.YtoeclfihlhmnpaaDoor.XW Go.Proofs.YtoeclfihlhmnpaaDoorW.PrintWords Go.Proofs.YtoeclfihlhmnpaaDoorW.PrintLast Go.Proofs.YtoeclfihlhmnpaaDoorW.PrintMore
attribute [local go_sem] max2_int min2_int max_two min_two max_three min_three max_four min_four   -- for this text's walks alone
set_option linter.unusedVariables false
set_option linter.unusedSimpArgs false

def spec_pzParse.l0 : Nat → ByteArray → List ByteArray → Int → Int → Int → List (S_impl_Clue) → Option (Int × (List (S_impl_Clue)) × Bool)
 | 0, _, _, _, _, _, _ => none
 | k + 1, x0, x32, x33, x34, x148000, x148001 => if x34 < x33 then (if 0 ≤ x34 then (if x34 < (x32.length : Int) then ((spec_l1Split.f k (rdOf ByteArray.empty x32 x34) 46).bind fun t156 => (if (t156.length : Int) = 4 then (if 0 < (t156.length : Int) then ((spec_l1Read.f k (rdOf ByteArray.empty t156 0)).bind fun t160 => (if 1 < (t156.length : Int) then ((spec_l1Read.f k (rdOf ByteArray.empty t156 1)).bind fun t162 => (if 2 < (t156.length : Int) then ((spec_l1Read.f k (rdOf ByteArray.empty t156 2)).bind fun t164 => (if 3 < (t156.length : Int) then ((spec_l1Read.f k (rdOf ByteArray.empty t156 3)).bind fun t166 => (if x148001.length < 4398046511104 then (spec_pzParse.l0 k x0 x32 x33 (wrap64 (x34 + 1)) x148000 (x148001 ++ [(⟨t160, t162, t164, t166⟩ : S_impl_Clue)])) else (none))) else (none))) else (none))) else (none))) else (none)) else (some (0, ([] : List (S_impl_Clue)), false)))) else (none)) else (none)) else ((spec_pzGood.f k x148000 x148001).bind fun t153 => (if t153 = true then ((spec_pzText.f k x148000 x148001).bind fun t154 => (some (x148000, x148001, (t154.toList == x0.toList)))) else (some (x148000, x148001, false))))
def spec_pzParse.f (k : Nat) (a0 : ByteArray) : Option (Int × (List (S_impl_Clue)) × Bool) := if (a0.size : Int) > 120 then (some (0, ([] : List (S_impl_Clue)), false)) else ((spec_l1Split.f k a0 58).bind fun t142 => (if (t142.length : Int) = 2 then (if 0 < (t142.length : Int) then ((spec_l1Read.f k (rdOf ByteArray.empty t142 0)).bind fun t146 => (if 1 < (t142.length : Int) then (if ((rdOf ByteArray.empty t142 1).size : Int) > 0 then ((spec_l1Split.f k (rdOf ByteArray.empty t142 1) 44).bind fun t150 => (spec_pzParse.l0 k a0 t150 (t150.length : Int) 0 t146 ([] : List (S_impl_Clue)))) else ((spec_pzGood.f k t146 ([] : List (S_impl_Clue))).bind fun t170 => (if t170 = true then ((spec_pzText.f k t146 ([] : List (S_impl_Clue))).bind fun t171 => (some (t146, ([] : List (S_impl_Clue)), (t171.toList == a0.toList)))) else (some (t146, ([] : List (S_impl_Clue)), false))))) else (none))) else (none)) else (some (0, ([] : List (S_impl_Clue)), false))))
theorem spec_pzParse.mono_l : ∀ k, (∀ y0 y1 y2 y3 y4 y5, LeO (spec_pzParse.l0 k y0 y1 y2 y3 y4 y5) (spec_pzParse.l0 (k + 1) y0 y1 y2 y3 y4 y5))
 | 0 => fun _ _ _ _ _ _ r h => by simp [spec_pzParse.l0] at h
 | k + 1 => by
  have ih0 := spec_pzParse.mono_l k
  ·intro y0 y1 y2 y3 y4 y5
   unfold spec_pzParse.l0
   repeat' first
   | (with_reducible exact ih0 _ _ _ _ _ _)
   | (with_reducible exact spec_l1Read.mono _ _)
   | (with_reducible exact spec_l1Split.mono _ _ _)
   | (with_reducible exact spec_pzGood.mono _ _ _)
   | (with_reducible exact spec_pzText.mono _ _ _)
   | (with_reducible exact LeO.refl _)
   | (with_reducible exact LeO.none _)
   | (with_reducible refine LeO.ite ?_ ?_)
   | (with_reducible refine LeO.bind ?_ (fun _ => ?_))
   | exact ih0 _ _ _ _ _ _
   | exact spec_l1Read.mono _ _
   | exact spec_l1Split.mono _ _ _
   | exact spec_pzGood.mono _ _ _
   | exact spec_pzText.mono _ _ _
   | exact LeO.none _
   | refine LeO.ite ?_ ?_
   | refine LeO.bind ?_ (fun _ => ?_)
theorem spec_pzParse.mono : ∀ a0 k, LeO (spec_pzParse.f k a0) (spec_pzParse.f (k + 1) a0) := by
 intro a0 k
 have ih0 := spec_pzParse.mono_l k
 unfold spec_pzParse.f
 repeat' first | (with_reducible exact ih0 _ _ _ _ _ _) | (with_reducible exact spec_l1Read.mono _ _) | (with_reducible exact spec_l1Split.mono _ _ _) | (with_reducible exact spec_pzGood.mono _ _ _) | (with_reducible exact spec_pzText.mono _ _ _) | (with_reducible exact LeO.refl _) | (with_reducible exact LeO.none _) | (with_reducible refine LeO.ite ?_ ?_) | (with_reducible refine LeO.bind ?_ (fun _ => ?_)) | exact ih0 _ _ _ _ _ _ | exact spec_l1Read.mono _ _ | exact spec_l1Split.mono _ _ _ | exact spec_pzGood.mono _ _ _ | exact spec_pzText.mono _ _ _ | exact LeO.none _ | refine LeO.ite ?_ ?_ | refine LeO.bind ?_ (fun _ => ?_)
def spec_pzParse.T14 : Bool × List (List Nat × List Nat) := (true, [([], []), ([0], [0]), ([], []), ([2], [2]), ([3], [3]), ([4], [4]), ([], []), ([6], [6]), ([7], [7]), ([8, 5], [8]), ([], []), ([10], [10]), ([11], [11]), ([12, 9], [12]), ([], []), ([14], [14]), ([15], [15]), ([16, 13], [16]), ([5, 9, 13, 17], [5, 9, 13, 17]), ([18], [18]), ([1, 19, 17], [1, 19]), ([0, 1, 2, 3, 4, 5, 6, 7, 8, 9, 10, 11, 12, 13, 14, 15, 16, 17, 18, 19, 20], []), ([21, 20, 20, 0, 1, 2, 3, 4, 5, 6, 7, 8, 9, 10, 11, 12, 13, 14, 15, 16, 17, 18, 19, 20], [20, 21])])
def spec_pzParse.B14 : List Nat := [0, 1, 0, 4, 12, 28, 0, 64, 192, 508, 0, 1024, 3072, 8188, 0, 16384, 49152, 131068, 262140, 524284, 1048575, 2097151, 4194303]
theorem spec_pzParse.tab14 : rtab .any (opsOf Tryd.f14 14) = spec_pzParse.T14 := by kernel_rfl
theorem spec_pzParse.bits14 : waitsOk spec_pzParse.T14.2 spec_pzParse.B14 = true := by kernel_rfl
def spec_pzParse.T16 : Bool × List (List Nat × List Nat) := (true, [([], []), ([], []), ([1], [1]), ([2, 2], [2]), ([3], [3]), ([4, 3, 3], [3, 4]), ([3], [3]), ([5, 6, 3], [3, 5, 6]), ([3, 7], [3, 7]), ([0, 5, 0], [0]), ([8, 9, 0, 1, 2, 3, 4, 5, 6, 7, 8, 9], [8])])
def spec_pzParse.B16 : List Nat := [0, 0, 2, 6, 14, 30, 14, 126, 254, 63, 1023]
theorem spec_pzParse.tab16 : rtab .any (opsOf Tryd.f14 16) = spec_pzParse.T16 := by kernel_rfl
theorem spec_pzParse.bits16 : waitsOk spec_pzParse.T16.2 spec_pzParse.B16 = true := by kernel_rfl
set_option maxHeartbeats 8000000 in
set_option maxRecDepth 100000 in
theorem spec_pzParse.calls (k : Nat) (a0 : ByteArray) (r1 : Int) (r2 : List (S_impl_Clue)) (r3 : Bool) (w : World) (h : spec_pzParse.f k a0 = some (r1, r2, r3)) :
  Calls Tryd.prog 14 #[.string a0] w fun e w' => ∃ v1_ : Value, e = .returned (.tuple #[.agg #[.int .i64 r1, v1_], .bool r3]) ∧ Kd.R kd_impl_Clue 48 w' w.heap.size (fun _ => True) v1_ r2 ∧ Below w.heap.size w w' := by
 have hu24 := Tryd.underlying24; have hu48 := Tryd.underlying48; have HB := aM (Below.refl w.heap.size w)
 unfold spec_pzParse.f at h; have H := h; clear h
 by_cases c2 : (a0.size : Int) > 120
 ·rw [if_pos c2] at H; have c2b0 := dE c2; have c2b1 : decide (120 < a0.size) = true := dE (by omega)
  clear c2
  simp only [Option.some.injEq, Prod.mk.injEq] at H
  obtain ⟨rfl, rfl, rfl⟩ := H
  go_enter Tryd.func14, Tryd.ntmps14
  go_wp2_with (first | ((with_reducible refine gate_dst (N := 2) rfl ?_); refine bV 2 (cs := #[.int .i64 0, .slice none 0 0]) (t := 24) rfl rfl (by first | (go_simp; done) | (go_simp; rfl)) ?_; intro gb141 hg w3 hbox hb; have BK141 := hbox; have GW141 := gZ HB hg; have GE141 := gZ HB hg; replace HB := tB HB hb; clear hb hbox hg; have hcz4_0 := vZ0 BK141; have hcz4_1 := vZ1 BK141; have hfz4_0 := kF BK141.out 0; have hfz4_1 := kF BK141.out 1))
  refine bodyPost_ret (results_ct rfl _ _ gb141 24 #[.int .i64 0, .slice none 0 0] (0, 0) _ rfl (fQ BK141) Tryd.underlying24 rfl kR) rfl ?_
  exact ⟨_, by first | rfl | (simp [errW_none, errW_some] <;> rfl) | (simp [*, errW_none, errW_some] <;> rfl), by first | exact Kd.R_nil _ _ _ _ _ | exact Kd.N_nil _ _ _ _ _ | exact Kd.V_nil _ _ _ _ _ | exact Kd.Q_nil _ _ _ _ _ | exact Kd.S_nil _ _ _ _ _, bE⟩
 ·rw [if_neg c2] at H; have c2b0 := decide_eq_false c2; have c2b1 : decide (120 < a0.size) = false := decide_eq_false (by omega)
  clear c2; replace H := bS H; obtain ⟨t142, A5, H⟩ := H
  by_cases c6 : (t142.length : Int) = 2
  ·rw [if_pos c6] at H; have c6b0 : ((t142.length : Int) == 2) = true := beq_iff_eq.mpr c6; have c6b1 : ((t142.length : Int) != 2) = false := bne_eq_false_iff_eq.mpr c6; clear c6; replace H := iN H; obtain ⟨c7, H⟩ := H; have c7b0 := dE c7; have c7b1 : decide (0 < t142.length) = true := dE (by omega)
   clear c7; replace H := bS H; obtain ⟨t146, A8, H⟩ := H; replace H := iN H; obtain ⟨c9, H⟩ := H; have c9b0 := dE c9; have c9b1 : decide (1 < t142.length) = true := dE (by omega)
   clear c9
   by_cases c10 : ((rdOf ByteArray.empty t142 1).size : Int) > 0
   ·rw [if_pos c10] at H; have c10b0 := dE c10; have c10b1 : decide (0 < (rdOf ByteArray.empty t142 1).size) = true := dE (by omega)
    clear c10; replace H := bS H; obtain ⟨t150, A11, H⟩ := H; have H' := aM H; clear H
    go_enter Tryd.func14, Tryd.ntmps14
    go_wp2_with (first | ((with_reducible refine gate_dst (N := 2) rfl ?_); refine bV 2 (cs := #[.int .i64 0, .slice none 0 0]) (t := 24) rfl rfl (by first | (go_simp; done) | (go_simp; rfl)) ?_; intro gb141 hg w12 hbox hb; have BK141 := hbox; have GW141 := gZ HB hg; have GE141 := gZ HB hg; replace HB := tB HB hb; clear hb hbox hg) | ((with_reducible refine gC (f := 27) rfl ?_); refine goesL_ (some 14) rfl rfl Tryd.func27 kR rfl #[.string a0, .int .u8 58] rfl sQ ?_; (with_reducible refine (spec_l1Split.calls k a0 58 t142 _ A5.out).mono ?_); rintro e w13 ⟨v143, rfl, ho0, hb⟩; refine ⟨_, rfl, ?_⟩; have HO144 := aM (Kd.R_lower ho0 (pZ bE)); replace BK141 := bB BK141 hb; replace HB := tB HB hb; (try clear hb); (try clear hb2); (try clear hk); (try clear hi); (try clear ho0); obtain ⟨Ao14, co14, eo14⟩ := Kd.R_slice HO144.out; subst eo14; have p145 : 0 ≤ (0 : Int) := (by omega); have q145 : 0 < (t142.length : Int) := dT aQ; obtain ⟨ad145, e145, hx145_0⟩ := Kd.at_string (rR HO144.out).2.2 0 p145 q145; cases e145; have qi145 : (0 < t142.length) = True := eq_true (by omega); (try rw [show ((0 : Int)).toNat = 0 from rfl] at hx145_0); (try rw [Addr.add_zero'] at hx145_0); replace p145 := eq_true p145; replace q145 := eq_true q145) | ((with_reducible refine gC (f := 28) rfl ?_); refine goesL_ (some 22) rfl rfl Tryd.func28 kR rfl #[.string (rdOf ByteArray.empty t142 0)] rfl sQ ?_; (with_reducible refine (spec_l1Read.calls k (rdOf ByteArray.empty t142 0) t146 _ A8.out).mono ?_); rintro e w' ⟨rfl, ⟨nd, rfl⟩⟩; refine ⟨_, rfl, ?_⟩; (try (rw [drewN_self w13]; generalize hq_ : World.drewN w13 _ = w13; have n0_ : Aside0 (Kd.R Kd.string 9 w13 w.heap.size (fun _ => True) (.slice (some ad145) t142.length co14) t142) := ⟨by rw [← hq_]; exact (by (with_reducible repeat (first | apply rA | apply rN | apply rD)); exact HO144.out)⟩; have n1_ : Aside0 (w13.heap[gb141]? = some (.cells #[.int .i64 0, .slice none 0 0] 24 (0, 0))) := ⟨by rw [← hq_]; exact (gQ BK141)⟩; have n2_ : Aside0 (Below w.heap.size w w13) := ⟨by rw [← hq_]; exact bE⟩; clear HO144 BK141 HB hq_; have HO144 := n0_; have BK141 := n1_; have HB := n2_; clear n0_ n1_ n2_))) | ((with_reducible refine gate_dst (N := 5) rfl ?_); refine bV 5 (cs := #[.int .i64 0, .slice none 0 0]) (t := 24) rfl rfl (by first | (go_simp; done) | (go_simp; rfl)) ?_; intro gb147 hg w15 hbox hb; have BK147 := hbox; have GW147 := gZ HB hg; have GE147 := gZ HB hg; have NB141_147 := nG BK141 hg; have NB147_141 := nH BK141 hg; replace HO144 := aM (Kd.R_below (by (with_reducible repeat (first | apply rA | apply rN | apply rD)); exact HO144.out) hb); replace BK141 := bB BK141 hb; replace HB := tB HB hb; clear hb hbox hg; have hnb16 := NB147_141.out; have hnc16 := NB141_147.out; have hcz17_0 := vZ0 BK147; have hcz17_1 := vZ1 BK147; have hfz17_0 := kF BK147.out 0; have hfz17_1 := kF BK147.out 1; have p148 : 0 ≤ (1 : Int) := (by omega); have q148 : 1 < (t142.length : Int) := dT aQ; obtain ⟨ad148, e148, hx148_0⟩ := Kd.at_string (rR HO144.out).2.2 1 p148 q148; obtain rfl : ad145 = ad148 := (by injection e148); (try simp only [show (1 : Int).toNat = 1 from rfl, Nat.reduceMul, Nat.reduceEqDiff, Go.Addr.add, ↓reduceIte] at hx148_0); have qi148 : (1 < t142.length) = True := eq_true (by omega); (try rw [show ((1 : Int)).toNat = 1 from rfl] at hx148_0); have hn148_0 : ad145.block ≠ gb147 := (by (try dsimp only); first | exact Kd.own_blk (Kd.R_ne HO144.out BK147.out (by decide)) | exact oX (HO144.out.1 _ rfl)); have hn148_1 : ad145.block ≠ gb147 := (by (try dsimp only); first | exact Kd.own_blk (Kd.R_ne HO144.out BK147.out (by decide)) | exact oX (HO144.out.1 _ rfl)); replace hx148_0 := (cell_far (p := ⟨gb147, 0, none⟩) (by first | (rw [add_block]; exact hn148_0) | (show (Addr.add _ _).block ≠ _; rw [add_block]; exact hn148_0) | exact hn148_0) (.int .i64 t146)).trans hx148_0; replace hx148_0 := (cell_far (p := ⟨gb147, 1, none⟩) (by first | (rw [add_block]; exact hn148_1) | (show (Addr.add _ _).block ≠ _; rw [add_block]; exact hn148_1) | exact hn148_1) (.slice none 0 0)).trans hx148_0; clear hn148_0; clear hn148_1; replace p148 := eq_true p148; replace q148 := eq_true q148; have p149 : 0 ≤ (1 : Int) := (by omega); have q149 : 1 < (t142.length : Int) := dT aQ; obtain ⟨ad149, e149, hx149_0⟩ := Kd.at_string (rR HO144.out).2.2 1 p149 q149; obtain rfl : ad145 = ad149 := (by injection e149); (try simp only [show (1 : Int).toNat = 1 from rfl, Nat.reduceMul, Nat.reduceEqDiff, Go.Addr.add, ↓reduceIte] at hx149_0); have qi149 : (1 < t142.length) = True := eq_true (by omega); (try rw [show ((1 : Int)).toNat = 1 from rfl] at hx149_0); have hn149_0 : ad145.block ≠ gb147 := (by (try dsimp only); first | exact Kd.own_blk (Kd.R_ne HO144.out BK147.out (by decide)) | exact oX (HO144.out.1 _ rfl)); have hn149_1 : ad145.block ≠ gb147 := (by (try dsimp only); first | exact Kd.own_blk (Kd.R_ne HO144.out BK147.out (by decide)) | exact oX (HO144.out.1 _ rfl)); replace hx149_0 := (cell_far (p := ⟨gb147, 0, none⟩) (by first | (rw [add_block]; exact hn149_0) | (show (Addr.add _ _).block ≠ _; rw [add_block]; exact hn149_0) | exact hn149_0) (.int .i64 t146)).trans hx149_0; replace hx149_0 := (cell_far (p := ⟨gb147, 1, none⟩) (by first | (rw [add_block]; exact hn149_1) | (show (Addr.add _ _).block ≠ _; rw [add_block]; exact hn149_1) | exact hn149_1) (.slice none 0 0)).trans hx149_0; clear hn149_0; clear hn149_1; replace p149 := eq_true p149; replace q149 := eq_true q149) | ((with_reducible refine gC (f := 27) rfl ?_); refine goesL_ (some 32) rfl rfl Tryd.func27 kR rfl #[.string (rdOf ByteArray.empty t142 1), .int .u8 44] rfl sQ ?_; (with_reducible refine (spec_l1Split.calls k (rdOf ByteArray.empty t142 1) 44 t150 _ A11.out).mono ?_); rintro e w18 ⟨v151, rfl, ho0, hb⟩; refine ⟨_, rfl, ?_⟩; have HO152 := aM (Kd.R_lower (Kd.R_new' ho0 (Kd.R_lt (by (with_reducible repeat (first | apply rA | apply rN | apply rD)); exact (Kd.R_mono (Kd.R_far (p := ⟨gb147, 1, none⟩) (Kd.R_far (p := ⟨gb147, 0, none⟩) (Kd.R_types HO144.out BK147.out (by decide)) (fun _ hk => hk.2) (.int .i64 t146)) (fun _ hk => hk.2) (.slice none 0 0)) (fun _ h_ => h_.1))))) (pZ bE)); replace HO144 := aM (Kd.R_elder' (by (with_reducible repeat (first | apply rA | apply rN | apply rD)); exact (Kd.R_mono (Kd.R_far (p := ⟨gb147, 1, none⟩) (Kd.R_far (p := ⟨gb147, 0, none⟩) (Kd.R_types HO144.out BK147.out (by decide)) (fun _ hk => hk.2) (.int .i64 t146)) (fun _ hk => hk.2) (.slice none 0 0)) (fun _ h_ => h_.1))) (Kd.R_base ho0) hb); replace BK141 := aM (blk_below (g := gb141) (o := .cells #[.int .i64 0, .slice none 0 0] 24 (0, 0)) (fQ BK141) hb); replace BK147 := aM (blk_below (g := gb147) (o := .cells #[.int .i64 t146, .slice none 0 0] 24 (0, 0)) (fQ BK147) hb); replace HB := tB HB hb; (try clear hb); (try clear hb2); (try clear hk); (try clear hi); (try clear ho0); obtain ⟨Ao19, co19, eo19⟩ := Kd.R_slice HO152.out; subst eo19))
    go_loopg [34] k (fun kq v34 w' => ∃ (x34_1 : Int) (x142000_1 : Int) (x148001_1 : List (S_impl_Clue)) (u148001 : Value), v34 = .int .i64 x34_1 ∧ Aside0 (spec_pzParse.l0 kq a0 t150 (t150.length : Int) x34_1 t146 x148001_1 = some (r1, r2, r3)) ∧ Aside0 (kq ≤ k) ∧ Aside0 (Kd.R Kd.string 9 w' w.heap.size (fun _ => True) (.slice Ao19 t150.length co19) t150) ∧ Aside0 (Kd.R kd_impl_Clue 48 w' w.heap.size (fun _ => True) u148001 x148001_1) ∧ Aside0 (w'.heap[gb141]? = some (.cells #[.int .i64 x142000_1, (.slice none 0 0)] 24 (0, 0))) ∧ Aside0 (w'.heap[gb147]? = some (.cells #[.int .i64 t146, u148001] 24 (0, 0))) ∧ Aside0 (Below w.heap.size w w'))
    case atStart => exact ⟨(0), (0), (([] : List (S_impl_Clue))), (.slice none 0 0), eQ, H', ⟨Nat.le_refl _⟩, ⟨by (with_reducible repeat (first | apply rA | apply rN | apply rD)); exact Kd.R_mono HO152.out (fun _ hk => trivial)⟩, ⟨by first | exact Kd.R_nil _ _ _ _ _ | exact Kd.N_nil _ _ _ _ _ | exact Kd.V_nil _ _ _ _ _ | exact Kd.Q_nil _ _ _ _ _ | exact Kd.S_nil _ _ _ _ _⟩, ⟨gQ BK141⟩, ⟨gQ BK147⟩, ⟨bE⟩⟩
    case round =>
     clear H'; (try clear c2); (try clear c2b0); (try clear c2b1); (try clear c6); (try clear c6b0); (try clear c6b1); (try clear c7); (try clear c7b0); (try clear c7b1); (try clear c9); (try clear c9b0); (try clear c9b1); (try clear c10); (try clear c10b0); (try clear c10b1); (try clear hcz17_0); (try clear hcz17_1); (try clear hcz4_0); (try clear hcz4_1); (try clear hfz17_0); (try clear hfz17_1); (try clear hfz4_0); (try clear hfz4_1); (try clear hx145_0); (try clear hx148_0); (try clear hx149_0); (try clear p145); (try clear p148); (try clear p149); (try clear q145); (try clear q148); (try clear q149); obtain ⟨x34_1, x142000_1, x148001_1, u148001, rfl, HA, HK1, HO_32, HO_148001, BK141, BK147, HB⟩ := hrel
     cases gk with
     | zero => exact absurd HA.out (by simp [spec_pzParse.l0])
     | succ k1 =>
      have H := HA.out; clear HA
      simp only [spec_pzParse.l0] at H
      by_cases c20 : x34_1 < (t150.length : Int)
      ·rw [if_pos c20] at H; have c20b0 := dE c20; clear c20; replace H := iD H; obtain ⟨c21b0, H⟩ := H; replace H := iD H; obtain ⟨c22b0, H⟩ := H; replace H := bS H; obtain ⟨t156, A23, H⟩ := H
       by_cases c24 : (t156.length : Int) = 4
       ·rw [if_pos c24] at H; have c24b0 : ((t156.length : Int) == 4) = true := beq_iff_eq.mpr c24; have c24b1 : ((t156.length : Int) != 4) = false := bne_eq_false_iff_eq.mpr c24; clear c24; replace H := iN H; obtain ⟨c25, H⟩ := H; have c25b0 := dE c25; have c25b1 : decide (0 < t156.length) = true := dE (by omega)
        clear c25; replace H := bS H; obtain ⟨t160, A26, H⟩ := H; replace H := iN H; obtain ⟨c27, H⟩ := H; have c27b0 := dE c27; have c27b1 : decide (1 < t156.length) = true := dE (by omega)
        clear c27; replace H := bS H; obtain ⟨t162, A28, H⟩ := H; replace H := iN H; obtain ⟨c29, H⟩ := H; have c29b0 := dE c29; have c29b1 : decide (2 < t156.length) = true := dE (by omega)
        clear c29; replace H := bS H; obtain ⟨t164, A30, H⟩ := H; replace H := iN H; obtain ⟨c31, H⟩ := H; have c31b0 := dE c31; have c31b1 : decide (3 < t156.length) = true := dE (by omega)
        clear c31; replace H := bS H; obtain ⟨t166, A32, H⟩ := H; replace H := iN H; obtain ⟨c33, H⟩ := H; have LMc33 := aM c33; clear c33; obtain ⟨y167, hy167⟩ : ∃ y_ : List (S_impl_Clue), y_ = (x148001_1 ++ [(⟨t160, t162, t164, t166⟩ : S_impl_Clue)]) := ⟨_, rfl⟩; rw [← hy167] at H; have Ny167 := aM hy167; clear hy167; have H' := aM H; clear H; have p155 : 0 ≤ (x34_1 : Int) := dT aQ; have q155 : x34_1 < (t150.length : Int) := dT aQ; obtain ⟨ad155, e155, hx155_0⟩ := Kd.at_string (rR HO_32.out).2.2 x34_1 p155 q155
        cases e155
        replace p155 := eq_true p155; replace q155 := eq_true q155
        try go_wp2_with (first | ((with_reducible refine gC (f := 27) rfl ?_); refine goesL_ (some 39) rfl rfl Tryd.func27 kR rfl #[.string (rdOf ByteArray.empty t150 x34_1), .int .u8 46] rfl sQ ?_; (with_reducible refine (spec_l1Split.calls k1 (rdOf ByteArray.empty t150 x34_1) 46 t156 _ A23.out).mono ?_); rintro e w34 ⟨v157, rfl, ho0, hb⟩; refine ⟨_, rfl, ?_⟩; have HO158 := aM (Kd.R_lower (Kd.R_new' ho0 (Kd.R_lt (by (with_reducible repeat (first | apply rA | apply rN | apply rD)); exact HO_32.out))) (pZ bE)); replace HO_32 := aM (Kd.R_elder' (by (with_reducible repeat (first | apply rA | apply rN | apply rD)); exact HO_32.out) (Kd.R_base ho0) hb); replace HO_148001 := aM (Kd.R_below (by (with_reducible repeat (first | apply rA | apply rN | apply rD)); exact HO_148001.out) hb); replace BK141 := bB BK141 hb; replace BK147 := bB BK147 hb; replace HB := tB HB hb; (try clear hb); (try clear hb2); (try clear hk); (try clear hi); (try clear ho0); obtain ⟨Ao35, co35, eo35⟩ := Kd.R_slice HO158.out; subst eo35))
        replace HO_32 := aM (rD HO_32.out); replace HO_148001 := aM (rD HO_148001.out); replace HO158 := aM (rD HO158.out); replace BK141 := aM (kD BK141.out); replace BK147 := aM (kD BK147.out); replace HB := aM (pD HB.out); have p159 : 0 ≤ (0 : Int) := (by omega)
        have q159 : 0 < (t156.length : Int) := dT aQ; obtain ⟨ad159, e159, hx159_0⟩ := Kd.at_string (rR HO158.out).2.2 0 p159 q159
        cases e159
        have qi159 : (0 < t156.length) = True := eq_true (by omega)
        (try rw [show ((0 : Int)).toNat = 0 from rfl] at hx159_0)
        (try rw [Addr.add_zero'] at hx159_0)
        replace p159 := eq_true p159; replace q159 := eq_true q159; have p161 : 0 ≤ (1 : Int) := (by omega)
        have q161 : 1 < (t156.length : Int) := dT aQ; obtain ⟨ad161, e161, hx161_0⟩ := Kd.at_string (rR HO158.out).2.2 1 p161 q161; obtain rfl : ad159 = ad161 := (by injection e161)
        (try simp only [show (1 : Int).toNat = 1 from rfl, Nat.reduceMul, Nat.reduceEqDiff, Go.Addr.add, ↓reduceIte] at hx161_0)
        have qi161 : (1 < t156.length) = True := eq_true (by omega)
        (try rw [show ((1 : Int)).toNat = 1 from rfl] at hx161_0)
        replace p161 := eq_true p161; replace q161 := eq_true q161; have p163 : 0 ≤ (2 : Int) := (by omega)
        have q163 : 2 < (t156.length : Int) := dT aQ; obtain ⟨ad163, e163, hx163_0⟩ := Kd.at_string (rR HO158.out).2.2 2 p163 q163; obtain rfl : ad159 = ad163 := (by injection e163)
        (try simp only [show (2 : Int).toNat = 2 from rfl, Nat.reduceMul, Nat.reduceEqDiff, Go.Addr.add, ↓reduceIte] at hx163_0)
        have qi163 : (2 < t156.length) = True := eq_true (by omega)
        (try rw [show ((2 : Int)).toNat = 2 from rfl] at hx163_0)
        replace p163 := eq_true p163; replace q163 := eq_true q163; have p165 : 0 ≤ (3 : Int) := (by omega)
        have q165 : 3 < (t156.length : Int) := dT aQ; obtain ⟨ad165, e165, hx165_0⟩ := Kd.at_string (rR HO158.out).2.2 3 p165 q165; obtain rfl : ad159 = ad165 := (by injection e165)
        (try simp only [show (3 : Int).toNat = 3 from rfl, Nat.reduceMul, Nat.reduceEqDiff, Go.Addr.add, ↓reduceIte] at hx165_0)
        have qi165 : (3 < t156.length) = True := eq_true (by omega)
        (try rw [show ((3 : Int)).toNat = 3 from rfl] at hx165_0)
        replace p165 := eq_true p165; replace q165 := eq_true q165
        refine start_ (n := 23) (S := fun w' => w'.cell? ⟨gb147, 0, none⟩ = some (.int .i64 t146) ∧ w'.cell? ⟨gb147, 1, none⟩ = some (u148001) ∧ w'.cell? ad159 = some (.string (rdOf ByteArray.empty t156 0)) ∧ w'.cell? ⟨ad159.block, ad159.off + 1, none⟩ = some (.string (rdOf ByteArray.empty t156 1)) ∧ w'.cell? ⟨ad159.block, ad159.off + 2, none⟩ = some (.string (rdOf ByteArray.empty t156 2)) ∧ w'.cell? ⟨ad159.block, ad159.off + 3, none⟩ = some (.string (rdOf ByteArray.empty t156 3))) (ds := [20, 22]) (bA 23 0) kR rfl rfl ⟨vZ0 BK147, vZ1 BK147, hx159_0, hx161_0, hx163_0, hx165_0⟩ (fun hHeld => ?_); refine with_tabW spec_pzParse.tab14 spec_pzParse.bits14 (fun HT_ HW_ => ?_)
        generalize w34.drew = w36 at HO_32 HO_148001 HO158 BK141 BK147 HB hx159_0 hx161_0 hx163_0 hx165_0 hHeld ⊢
        refine pU 0 44 (bA 23 1) HT_ ?_; refine pU 2 46 (bA 23 5) HT_ ?_; refine pU 3 47 (bA 23 13) HT_ ?_; refine pU 6 50 (bA 23 77) HT_ ?_; refine pU 7 51 (bA 23 205) HT_ ?_; refine pU 10 54 (bA 23 1229) HT_ ?_; refine pU 11 55 (bA 23 3277) HT_ ?_; refine pU 14 58 (bA 23 19661) HT_ ?_; refine pU 15 59 (bA 23 52429) HT_ ?_
        refine tU 1 45 (bA 23 52431) HT_ HW_ hHeld ?_ (hy := Or.inl ⟨by rfl, by rintro w' ⟨s0, s1, s2, s3, s4, s5⟩; go_simp; with_reducible rfl⟩)
        refine tU 4 48 (bA 23 52447) HT_ HW_ hHeld ?_ (hy := Or.inl ⟨by rfl, by rintro w' ⟨s0, s1, s2, s3, s4, s5⟩; go_simp; with_reducible rfl⟩)
        refine tU 8 52 (bA 23 52703) HT_ HW_ hHeld ?_ (hy := Or.inl ⟨by rfl, by rintro w' ⟨s0, s1, s2, s3, s4, s5⟩; go_simp; with_reducible rfl⟩)
        refine tU 12 56 (bA 23 56799) HT_ HW_ hHeld ?_ (hy := Or.inl ⟨by rfl, by rintro w' ⟨s0, s1, s2, s3, s4, s5⟩; go_simp; with_reducible rfl⟩)
        refine tU 16 60 (bA 23 122335) HT_ HW_ hHeld ?_ (hy := Or.inl ⟨by rfl, by rintro w' ⟨s0, s1, s2, s3, s4, s5⟩; go_simp; with_reducible rfl⟩)
        refine oU 5 49 (bA 23 122367) HT_ (fun K hK => ?_)
        refine goes_ Tryd.func28 kR rfl #[.string (rdOf ByteArray.empty t156 0)] (by rfl) rfl rfl sQ ?_
        with_reducible refine (spec_l1Read.calls k1 (rdOf ByteArray.empty t156 0) t160 _ A26.out).mono ?_
        rintro e w' ⟨rfl, ⟨nd, rfl⟩⟩; refine ⟨_, rfl, ?_⟩
        refine hK.out _ _ ⟨vZ0 BK147, vZ1 BK147, hHeld.2.2.1, hHeld.2.2.2.1, hHeld.2.2.2.2.1, hHeld.2.2.2.2.2⟩ (fun hHeld => ?_)
        clear hK K
        refine nU ?_
        refine oU 9 53 (bA 23 122879) HT_ (fun K hK => ?_)
        refine goes_ Tryd.func28 kR rfl #[.string (rdOf ByteArray.empty t156 1)] (by rfl) rfl rfl sQ ?_
        with_reducible refine (spec_l1Read.calls k1 (rdOf ByteArray.empty t156 1) t162 _ A28.out).mono ?_
        rintro e w' ⟨rfl, ⟨nd, rfl⟩⟩; refine ⟨_, rfl, ?_⟩
        refine hK.out _ _ ⟨vZ0 BK147, vZ1 BK147, hHeld.2.2.1, hHeld.2.2.2.1, hHeld.2.2.2.2.1, hHeld.2.2.2.2.2⟩ (fun hHeld => ?_)
        clear hK K
        refine nU ?_
        refine oU 13 57 (bA 23 131071) HT_ (fun K hK => ?_)
        refine goes_ Tryd.func28 kR rfl #[.string (rdOf ByteArray.empty t156 2)] (by rfl) rfl rfl sQ ?_
        with_reducible refine (spec_l1Read.calls k1 (rdOf ByteArray.empty t156 2) t164 _ A30.out).mono ?_
        rintro e w' ⟨rfl, ⟨nd, rfl⟩⟩; refine ⟨_, rfl, ?_⟩
        refine hK.out _ _ ⟨vZ0 BK147, vZ1 BK147, hHeld.2.2.1, hHeld.2.2.2.1, hHeld.2.2.2.2.1, hHeld.2.2.2.2.2⟩ (fun hHeld => ?_)
        clear hK K
        refine nU ?_
        refine oU 17 61 (bA 23 262143) HT_ (fun K hK => ?_)
        refine goes_ Tryd.func28 kR rfl #[.string (rdOf ByteArray.empty t156 3)] (by rfl) rfl rfl sQ ?_
        with_reducible refine (spec_l1Read.calls k1 (rdOf ByteArray.empty t156 3) t166 _ A32.out).mono ?_
        rintro e w' ⟨rfl, ⟨nd, rfl⟩⟩; refine ⟨_, rfl, ?_⟩
        refine hK.out _ _ ⟨vZ0 BK147, vZ1 BK147, hHeld.2.2.1, hHeld.2.2.2.1, hHeld.2.2.2.2.1, hHeld.2.2.2.2.2⟩ (fun hHeld => ?_)
        clear hK K
        refine nU ?_
        refine pU 18 62 (bA 23 524287) HT_ ?_
        refine oU 19 63 (bA 23 1048575) HT_ (fun K hK => ?_)
        refine value_ (w1 := ?_) (v := ?_) (by rfl) rfl ?_ ?_
        rotate_left 2
        ·go_simp
         constructor
         ·rfl
         ·rfl
        refine hK.out _ _ ⟨(kC (kA BK147.out _) 0).trans rfl, (kC (kA BK147.out _) 1).trans rfl, (World.cell?_alloc_lt _ _ _ (wB _ _ (hHeld.2.2.1))).trans (hHeld.2.2.1), (World.cell?_alloc_lt _ _ _ (wB _ _ (hHeld.2.2.2.1))).trans (hHeld.2.2.2.1), (World.cell?_alloc_lt _ _ _ (wB _ _ (hHeld.2.2.2.2.1))).trans (hHeld.2.2.2.2.1), (World.cell?_alloc_lt _ _ _ (wB _ _ (hHeld.2.2.2.2.2))).trans (hHeld.2.2.2.2.2)⟩ (fun hHeld => ?_)
        clear hK K
        refine nU ?_
        refine last_ (i := 20) (N := some 64) (bA 23 2097151) rfl rfl (one_of HT_.out kR) (by decide) (fun K hK => ?_)
        refine Kd.R_append_step kd_impl_Clue (w0 := w) w.heap.size (by rfl) (.tmp 45) (.tmp 63) 22 48 (.agg #[(.int .i64 0), (.int .i64 0), (.int .i64 0), (.int .i64 0)]) 32 rfl Tryd.underlying22 info48 rfl (by decide) (by omega) u148001 x148001_1 (⟨t160, t162, t164, t166⟩ : S_impl_Clue) [.int .i64 t160, .int .i64 t162, .int .i64 t164, .int .i64 t166] (fun _ => True) (fun _ => False) rfl rfl ?aP (fun _ hk => hk.elim) ?aF ?aO ?aB ?aS ?aL ?_
        (case aP => exact kd_impl_Clue_mkM _ _ _ (⟨t160, t162, t164, t166⟩ : S_impl_Clue))
        (case aB => exact bE)
        (case aF => exact (fun _ _ => trivial))
        (case aO => exact (by (with_reducible repeat (first | apply rA | apply rN | apply rD)); exact HO_148001.out))
        (case aS => exact (pZ bE))
        (case aL => have := LMc33.out; omega)
        intro v168 w37 ho hb hg hat
        rw [← Ny167.out] at ho; have n0_ := aM (Kd.R_over' (by (with_reducible repeat (first | apply rA | apply rN | apply rD)); exact HO_32.out) (Kd.R_typed (by (with_reducible repeat (first | apply rA | apply rN | apply rD)); exact HO_148001.out)) (by decide) hg)
        have n1_ := aM (blk_grown (g := gb141) (o := .cells #[.int .i64 x142000_1, .slice none 0 0] 24 (0, 0)) (gQ BK141) hg (Kd.R_ne HO_148001.out BK141.out (by decide)))
        have n2_ := aM (blk_grown (g := gb147) (o := .cells #[.int .i64 t146, u148001] 24 (0, 0)) (gQ BK147) hg (Kd.R_ne HO_148001.out BK147.out (by decide)))
        have n3_ := aM (Kd.R_over' (by (with_reducible repeat (first | apply rA | apply rN | apply rD)); exact HO158.out) (Kd.R_typed (by (with_reducible repeat (first | apply rA | apply rN | apply rD)); exact HO_148001.out)) (by decide) hg)
        have n4_ := aM (hb); have n5_ := aM (ho); clear HO_32; clear BK141; clear BK147; clear HO158; clear HB; clear HO_148001; have HO_32 := n0_; have BK141 := n1_; have BK147 := n2_; have HO158 := n3_; have HB := n4_; have HO169 := n5_; clear n0_ n1_ n2_ n3_ n4_ n5_; clear ho hb hg hat; obtain ⟨Ao38, co38, eo38⟩ := Kd.R_slice HO169.out
        (first | subst eo38 | (injection eo38 with f1_ f2_ f3_; have f4_ := f1_.symm; have f5_ := f3_.symm; clear f1_ f2_ f3_; subst f4_; subst f5_))
        refine hK.out _ _ ?_
        clear hK K
        refine nU ?_
        refine pU 21 65 (bA 23 4194303) HT_ ?_
        refine last_ (i := 22) (N := none) (bA 23 8388607) rfl rfl (one_of HT_.out kR) (by decide) (fun K hK => ?_)
        have hs39 : w37.cell? ⟨gb147, 1, none⟩ = some (u148001) := vZ1 BK147; have hfs39 := kF BK147.out 1; have hns39_0 := NB141_147.out; have hms39_0 := NB147_141.out
        refine skip_ (w1 := ?_) (by rfl) rfl ?_ ?_
        rotate_left
        ·go_simp
         rfl
        refine hK.out _ _ ?_
        clear hK K
        refine done_ (done_of HT_.out kR) ?_
        try go_wp2
        go_roundg k1
        case measure => have := HK1.out; omega
        case rel => exact ⟨(wrap64 (x34_1 + 1)), (x142000_1), (y167), (.slice Ao38 y167.length co38), eQ, H', ⟨by have := HK1.out; omega⟩, ⟨by (with_reducible repeat (first | apply rA | apply rN | apply rD)); exact Kd.R_mono (Kd.R_far (p := ⟨gb147, 1, none⟩) (Kd.R_types HO_32.out BK147.out (by decide)) (fun _ hk => hk.2) (.slice Ao38 y167.length co38)) (fun _ hk => trivial)⟩, ⟨by (with_reducible repeat (first | apply rA | apply rN | apply rD)); exact Kd.R_mono (Kd.R_far (p := ⟨gb147, 1, none⟩) (Kd.R_types HO169.out BK147.out (by decide)) (fun _ hk => hk.2) (.slice Ao38 y167.length co38)) (fun _ hk => trivial)⟩, ⟨fQ BK141⟩, ⟨fQ BK147⟩, ⟨bE⟩⟩
       ·rw [if_neg c24] at H; have c24b0 : ((t156.length : Int) == 4) = false := beq_eq_false_iff_ne.mpr c24; have c24b1 : ((t156.length : Int) != 4) = true := bne_iff_ne.mpr c24
        simp only [Option.some.injEq, Prod.mk.injEq] at H
        obtain ⟨rfl, rfl, rfl⟩ := H; have p155 : 0 ≤ (x34_1 : Int) := dT aQ; have q155 : x34_1 < (t150.length : Int) := dT aQ; obtain ⟨ad155, e155, hx155_0⟩ := Kd.at_string (rR HO_32.out).2.2 x34_1 p155 q155
        cases e155
        replace p155 := eq_true p155; replace q155 := eq_true q155
        go_wp2_with (first | ((with_reducible refine gC (f := 27) rfl ?_); refine goesL_ (some 39) rfl rfl Tryd.func27 kR rfl #[.string (rdOf ByteArray.empty t150 x34_1), .int .u8 46] rfl sQ ?_; (with_reducible refine (spec_l1Split.calls k1 (rdOf ByteArray.empty t150 x34_1) 46 t156 _ A23.out).mono ?_); rintro e w40 ⟨v157, rfl, ho0, hb⟩; refine ⟨_, rfl, ?_⟩; have HO158 := aM (Kd.R_lower (Kd.R_new' ho0 (Kd.R_lt (by (with_reducible repeat (first | apply rA | apply rN | apply rD)); exact HO_32.out))) (pZ bE)); replace HO_32 := aM (Kd.R_elder' (by (with_reducible repeat (first | apply rA | apply rN | apply rD)); exact HO_32.out) (Kd.R_base ho0) hb); replace HO_148001 := aM (Kd.R_below (by (with_reducible repeat (first | apply rA | apply rN | apply rD)); exact HO_148001.out) hb); replace BK141 := bB BK141 hb; replace BK147 := bB BK147 hb; replace HB := tB HB hb; (try clear hb); (try clear hb2); (try clear hk); (try clear hi); (try clear ho0); obtain ⟨Ao41, co41, eo41⟩ := Kd.R_slice HO158.out; subst eo41; have hnb42 := NB141_147.out; have hnc42 := NB147_141.out; have hcz43_0 := vZ0 BK141; have hcz43_1 := vZ1 BK141; have hfz43_0 := kF BK141.out 0; have hfz43_1 := kF BK141.out 1))
        refine bodyPost_ret (results_ct rfl _ _ gb141 24 #[.int .i64 0, .slice none 0 0] (0, 0) _ rfl (fQ BK141) Tryd.underlying24 rfl kR) rfl ?_
        exact ⟨_, by first | rfl | (simp [errW_none, errW_some] <;> rfl) | (simp [*, errW_none, errW_some] <;> rfl), by first | exact Kd.R_nil _ _ _ _ _ | exact Kd.N_nil _ _ _ _ _ | exact Kd.V_nil _ _ _ _ _ | exact Kd.Q_nil _ _ _ _ _ | exact Kd.S_nil _ _ _ _ _, bE⟩
      ·rw [if_neg c20] at H; have c20b0 := decide_eq_false c20; clear c20; replace H := bS H; obtain ⟨t153, A44, H⟩ := H
       by_cases c45 : t153 = true
       ·subst c45; replace H := iT H; replace H := bS H; obtain ⟨t154, A46, H⟩ := H
        simp only [Option.some.injEq, Prod.mk.injEq] at H
        obtain ⟨rfl, rfl, rfl⟩ := H
        try go_wp2
        replace HO_32 := aM (rD HO_32.out); replace HO_148001 := aM (rD HO_148001.out); replace BK141 := aM (kD BK141.out); replace BK147 := aM (kD BK147.out); replace HB := aM (pD HB.out); obtain ⟨Ao48, co48, eo48⟩ := Kd.R_slice HO_148001.out
        (first | subst eo48 | (injection eo48 with f1_ f2_ f3_; have f4_ := f1_.symm; have f5_ := f3_.symm; clear f1_ f2_ f3_; subst f4_; subst f5_))
        refine start_ (n := 11) (S := fun w' => w'.cell? ⟨gb147, 0, none⟩ = some (.int .i64 t146) ∧ w'.cell? ⟨gb147, 1, none⟩ = some (.slice Ao48 x148001_1.length co48)) (ds := []) (bA 11 0) kR rfl kR ⟨vZ0 BK147, vZ1 BK147⟩ (fun hHeld => ?_); refine with_tabW spec_pzParse.tab16 spec_pzParse.bits16 (fun HT_ HW_ => ?_)
        generalize wr.drew = w47 at HO_32 HO_148001 BK141 BK147 HB hHeld ⊢
        refine tU 0 67 (bA 11 1) HT_ HW_ hHeld ?_ (hy := Or.inl ⟨by rfl, by rintro w' ⟨s0, s1⟩; go_simp; with_reducible rfl⟩)
        refine tU 1 68 (bA 11 3) HT_ HW_ hHeld ?_ (hy := Or.inl ⟨by rfl, by rintro w' ⟨s0, s1⟩; go_simp; with_reducible rfl⟩)
        refine oU 2 69 (bA 11 7) HT_ (fun K hK => ?_)
        refine goes_ Tryd.func24 kR rfl #[.agg #[.int .i64 t146, .slice Ao48 x148001_1.length co48]] (by rfl) rfl rfl sQ ?_
        with_reducible refine (spec_pzGood.calls k1 t146 _ _ x148001_1 true _ ?side1 ?side2 A44.out).mono ?_
        (case side1 => repeat (first | exact (rR HO_148001.out).2.2 | (with_reducible refine cA ?_ _) | (with_reducible refine cN ?_ _) | (with_reducible refine cD ?_)))
        (case side2 => exact (rR HO_148001.out).2.1)
        rintro e w49 ⟨rfl, hb⟩; refine ⟨_, rfl, ?_⟩; replace HO_32 := aM (Kd.R_below (by (with_reducible repeat (first | apply rA | apply rN | apply rD)); exact HO_32.out) hb); replace HO_148001 := aM (Kd.R_below (by (with_reducible repeat (first | apply rA | apply rN | apply rD)); exact HO_148001.out) hb); replace BK141 := bB BK141 hb; replace BK147 := bB BK147 hb; replace HB := tB HB hb
        (try clear hb); (try clear hb2); (try clear hk); (try clear hi)
        refine hK.out _ _ ⟨vZ0 BK147, vZ1 BK147⟩ (fun hHeld => ?_)
        clear hK K
        refine nU ?_
        refine pU 3 70 (bA 11 15) HT_ ?_; refine pU 6 73 (bA 11 79) HT_ ?_
        refine tU 4 71 (bA 11 95) HT_ HW_ hHeld ?_ (hy := Or.inl ⟨by rfl, by rintro w' ⟨s0, s1⟩; go_simp; with_reducible rfl⟩)
        refine oU 5 72 (bA 11 127) HT_ (fun K hK => ?_)
        refine goes_ Tryd.func25 kR rfl #[.agg #[.int .i64 t146, .slice Ao48 x148001_1.length co48]] (by rfl) rfl rfl sQ ?_
        with_reducible refine (spec_pzText.calls k1 t146 _ _ x148001_1 t154 _ ?side1 ?side2 A46.out).mono ?_
        (case side1 => repeat (first | exact (rR HO_148001.out).2.2 | (with_reducible refine cA ?_ _) | (with_reducible refine cN ?_ _) | (with_reducible refine cD ?_)))
        (case side2 => exact (rR HO_148001.out).2.1)
        rintro e w50 ⟨rfl, hb⟩; refine ⟨_, rfl, ?_⟩; replace HO_32 := aM (Kd.R_below (by (with_reducible repeat (first | apply rA | apply rN | apply rD)); exact HO_32.out) hb); replace HO_148001 := aM (Kd.R_below (by (with_reducible repeat (first | apply rA | apply rN | apply rD)); exact HO_148001.out) hb); replace BK141 := bB BK141 hb; replace BK147 := bB BK147 hb; replace HB := tB HB hb
        (try clear hb); (try clear hb2); (try clear hk); (try clear hi)
        refine hK.out _ _ ⟨vZ0 BK147, vZ1 BK147⟩ (fun hHeld => ?_)
        clear hK K
        refine nU ?_
        refine pU 7 74 (bA 11 255) HT_ ?_; refine pU 8 75 (bA 11 511) HT_ ?_
        refine one_ (i := 9) (N := none) (bA 11 1023) rfl rfl (one_of HT_.out kR) (by decide) (fun K hK => ?_)
        have hs51 : w50.cell? ⟨gb141, 0, none⟩ = some (.int .i64 x142000_1) := vZ0 BK141; have hfs51 := kF BK141.out 0; have hns51_1 := NB147_141.out; have hms51_1 := NB141_147.out; have hs52 : w50.cell? ⟨gb141, 1, none⟩ = some (.slice none 0 0) := vZ1 BK141; have hfs52 := kF BK141.out 1; have hns52_1 := NB147_141.out; have hms52_1 := NB141_147.out
        refine skip_ (w1 := ?_) (by rfl) rfl ?_ ?_
        rotate_left
        ·go_simp
         rfl
        refine hK.out _ _ ⟨((cell_far (p := ⟨gb141, _, none⟩) NB147_141.out _).trans (((cell_far (p := ⟨gb141, _, none⟩) NB147_141.out _).trans (hHeld.1)))), ((cell_far (p := ⟨gb141, _, none⟩) NB147_141.out _).trans (((cell_far (p := ⟨gb141, _, none⟩) NB147_141.out _).trans (hHeld.2))))⟩ (fun hHeld => ?_)
        clear hK K; refine pU 10 3 (bA 11 2047) HT_ ?_
        refine done_ (done_of HT_.out kR) ?_
        try go_wp2
        refine bodyPost_ret (results_ct rfl _ _ gb141 24 #[.int .i64 t146, .slice Ao48 x148001_1.length co48] (0, 0) _ rfl (fQ BK141) Tryd.underlying24 rfl kR) rfl ?_
        exact ⟨_, by first | rfl | (simp [errW_none, errW_some] <;> rfl) | (simp [*, errW_none, errW_some] <;> rfl), by (with_reducible repeat (first | apply rA | apply rN | apply rD)); exact Kd.R_mono (Kd.R_far (p := ⟨gb141, 1, none⟩) (Kd.R_far (p := ⟨gb141, 0, none⟩) (Kd.R_types HO_148001.out BK141.out (by decide)) (fun _ hk => hk.2) (.int .i64 t146)) (fun _ hk => hk.2) (.slice Ao48 x148001_1.length co48)) (fun _ hk => trivial), bE⟩
       ·replace c45 := Bool.eq_false_iff.mpr c45; subst c45; replace H := iF H
        simp only [Option.some.injEq, Prod.mk.injEq] at H
        obtain ⟨rfl, rfl, rfl⟩ := H
        try go_wp2
        replace HO_32 := aM (rD HO_32.out); replace HO_148001 := aM (rD HO_148001.out); replace BK141 := aM (kD BK141.out); replace BK147 := aM (kD BK147.out); replace HB := aM (pD HB.out); obtain ⟨Ao54, co54, eo54⟩ := Kd.R_slice HO_148001.out
        (first | subst eo54 | (injection eo54 with f1_ f2_ f3_; have f4_ := f1_.symm; have f5_ := f3_.symm; clear f1_ f2_ f3_; subst f4_; subst f5_))
        refine start_ (n := 11) (S := fun w' => w'.cell? ⟨gb147, 0, none⟩ = some (.int .i64 t146) ∧ w'.cell? ⟨gb147, 1, none⟩ = some (.slice Ao54 x148001_1.length co54)) (ds := []) (bA 11 0) kR rfl kR ⟨vZ0 BK147, vZ1 BK147⟩ (fun hHeld => ?_); refine with_tabW spec_pzParse.tab16 spec_pzParse.bits16 (fun HT_ HW_ => ?_)
        generalize wr.drew = w53 at HO_32 HO_148001 BK141 BK147 HB hHeld ⊢
        refine tU 0 67 (bA 11 1) HT_ HW_ hHeld ?_ (hy := Or.inl ⟨by rfl, by rintro w' ⟨s0, s1⟩; go_simp; with_reducible rfl⟩)
        refine tU 1 68 (bA 11 3) HT_ HW_ hHeld ?_ (hy := Or.inl ⟨by rfl, by rintro w' ⟨s0, s1⟩; go_simp; with_reducible rfl⟩)
        refine oU 2 69 (bA 11 7) HT_ (fun K hK => ?_)
        refine goes_ Tryd.func24 kR rfl #[.agg #[.int .i64 t146, .slice Ao54 x148001_1.length co54]] (by rfl) rfl rfl sQ ?_
        with_reducible refine (spec_pzGood.calls k1 t146 _ _ x148001_1 false _ ?side1 ?side2 A44.out).mono ?_
        (case side1 => repeat (first | exact (rR HO_148001.out).2.2 | (with_reducible refine cA ?_ _) | (with_reducible refine cN ?_ _) | (with_reducible refine cD ?_)))
        (case side2 => exact (rR HO_148001.out).2.1)
        rintro e w55 ⟨rfl, hb⟩; refine ⟨_, rfl, ?_⟩; replace HO_32 := aM (Kd.R_below (by (with_reducible repeat (first | apply rA | apply rN | apply rD)); exact HO_32.out) hb); replace HO_148001 := aM (Kd.R_below (by (with_reducible repeat (first | apply rA | apply rN | apply rD)); exact HO_148001.out) hb); replace BK141 := bB BK141 hb; replace BK147 := bB BK147 hb; replace HB := tB HB hb
        (try clear hb); (try clear hb2); (try clear hk); (try clear hi)
        refine hK.out _ _ ⟨vZ0 BK147, vZ1 BK147⟩ (fun hHeld => ?_)
        clear hK K
        refine nU ?_
        refine pU 3 70 (bA 11 15) HT_ ?_; refine pU 4 71 (bA 11 31) HT_ ?_ (hy := Or.inr ⟨by rfl, rfl⟩)
        refine pU 5 72 (bA 11 63) HT_ ?_ (hy := Or.inr ⟨by rfl, rfl⟩)
        refine pU 6 73 (bA 11 127) HT_ ?_ (hy := Or.inr ⟨by rfl, rfl⟩)
        refine pU 7 74 (bA 11 255) HT_ ?_ (hy := Or.inr ⟨by rfl, rfl⟩)
        refine pU 8 75 (bA 11 511) HT_ ?_
        refine one_ (i := 9) (N := none) (bA 11 1023) rfl rfl (one_of HT_.out kR) (by decide) (fun K hK => ?_)
        have hs56 : w55.cell? ⟨gb141, 0, none⟩ = some (.int .i64 x142000_1) := vZ0 BK141; have hfs56 := kF BK141.out 0; have hns56_1 := NB147_141.out; have hms56_1 := NB141_147.out; have hs57 : w55.cell? ⟨gb141, 1, none⟩ = some (.slice none 0 0) := vZ1 BK141; have hfs57 := kF BK141.out 1; have hns57_1 := NB147_141.out; have hms57_1 := NB141_147.out
        refine skip_ (w1 := ?_) (by rfl) rfl ?_ ?_
        rotate_left
        ·go_simp
         rfl
        refine hK.out _ _ ⟨((cell_far (p := ⟨gb141, _, none⟩) NB147_141.out _).trans (((cell_far (p := ⟨gb141, _, none⟩) NB147_141.out _).trans (hHeld.1)))), ((cell_far (p := ⟨gb141, _, none⟩) NB147_141.out _).trans (((cell_far (p := ⟨gb141, _, none⟩) NB147_141.out _).trans (hHeld.2))))⟩ (fun hHeld => ?_)
        clear hK K; refine pU 10 3 (bA 11 2047) HT_ ?_
        refine done_ (done_of HT_.out kR) ?_
        try go_wp2
        refine bodyPost_ret (results_ct rfl _ _ gb141 24 #[.int .i64 t146, .slice Ao54 x148001_1.length co54] (0, 0) _ rfl (fQ BK141) Tryd.underlying24 rfl kR) rfl ?_
        exact ⟨_, by first | rfl | (simp [errW_none, errW_some] <;> rfl) | (simp [*, errW_none, errW_some] <;> rfl), by (with_reducible repeat (first | apply rA | apply rN | apply rD)); exact Kd.R_mono (Kd.R_far (p := ⟨gb141, 1, none⟩) (Kd.R_far (p := ⟨gb141, 0, none⟩) (Kd.R_types HO_148001.out BK141.out (by decide)) (fun _ hk => hk.2) (.int .i64 t146)) (fun _ hk => hk.2) (.slice Ao54 x148001_1.length co54)) (fun _ hk => trivial), bE⟩
   ·rw [if_neg c10] at H; have c10b0 := decide_eq_false c10; have c10b1 : decide (0 < (rdOf ByteArray.empty t142 1).size) = false := decide_eq_false (by omega)
    clear c10; replace H := bS H; obtain ⟨t170, A58, H⟩ := H
    by_cases c59 : t170 = true
    ·subst c59; replace H := iT H; replace H := bS H; obtain ⟨t171, A60, H⟩ := H
     simp only [Option.some.injEq, Prod.mk.injEq] at H
     obtain ⟨rfl, rfl, rfl⟩ := H
     go_enter Tryd.func14, Tryd.ntmps14
     try go_wp2_with (first | ((with_reducible refine gate_dst (N := 2) rfl ?_); refine bV 2 (cs := #[.int .i64 0, .slice none 0 0]) (t := 24) rfl rfl (by first | (go_simp; done) | (go_simp; rfl)) ?_; intro gb141 hg w61 hbox hb; have BK141 := hbox; have GW141 := gZ HB hg; have GE141 := gZ HB hg; replace HB := tB HB hb; clear hb hbox hg) | ((with_reducible refine gC (f := 27) rfl ?_); refine goesL_ (some 14) rfl rfl Tryd.func27 kR rfl #[.string a0, .int .u8 58] rfl sQ ?_; (with_reducible refine (spec_l1Split.calls k a0 58 t142 _ A5.out).mono ?_); rintro e w62 ⟨v143, rfl, ho0, hb⟩; refine ⟨_, rfl, ?_⟩; have HO144 := aM (Kd.R_lower ho0 (pZ bE)); replace BK141 := bB BK141 hb; replace HB := tB HB hb; (try clear hb); (try clear hb2); (try clear hk); (try clear hi); (try clear ho0); obtain ⟨Ao63, co63, eo63⟩ := Kd.R_slice HO144.out; subst eo63; have p145 : 0 ≤ (0 : Int) := (by omega); have q145 : 0 < (t142.length : Int) := dT aQ; obtain ⟨ad145, e145, hx145_0⟩ := Kd.at_string (rR HO144.out).2.2 0 p145 q145; cases e145; have qi145 : (0 < t142.length) = True := eq_true (by omega); (try rw [show ((0 : Int)).toNat = 0 from rfl] at hx145_0); (try rw [Addr.add_zero'] at hx145_0); replace p145 := eq_true p145; replace q145 := eq_true q145) | ((with_reducible refine gC (f := 28) rfl ?_); refine goesL_ (some 22) rfl rfl Tryd.func28 kR rfl #[.string (rdOf ByteArray.empty t142 0)] rfl sQ ?_; (with_reducible refine (spec_l1Read.calls k (rdOf ByteArray.empty t142 0) t146 _ A8.out).mono ?_); rintro e w' ⟨rfl, ⟨nd, rfl⟩⟩; refine ⟨_, rfl, ?_⟩; (try (rw [drewN_self w62]; generalize hq_ : World.drewN w62 _ = w62; have n0_ : Aside0 (Kd.R Kd.string 9 w62 w.heap.size (fun _ => True) (.slice (some ad145) t142.length co63) t142) := ⟨by rw [← hq_]; exact (by (with_reducible repeat (first | apply rA | apply rN | apply rD)); exact HO144.out)⟩; have n1_ : Aside0 (w62.heap[gb141]? = some (.cells #[.int .i64 0, .slice none 0 0] 24 (0, 0))) := ⟨by rw [← hq_]; exact (gQ BK141)⟩; have n2_ : Aside0 (Below w.heap.size w w62) := ⟨by rw [← hq_]; exact bE⟩; clear HO144 BK141 HB hq_; have HO144 := n0_; have BK141 := n1_; have HB := n2_; clear n0_ n1_ n2_))) | ((with_reducible refine gate_dst (N := 5) rfl ?_); refine bV 5 (cs := #[.int .i64 0, .slice none 0 0]) (t := 24) rfl rfl (by first | (go_simp; done) | (go_simp; rfl)) ?_; intro gb147 hg w64 hbox hb; have BK147 := hbox; have GW147 := gZ HB hg; have GE147 := gZ HB hg; have NB141_147 := nG BK141 hg; have NB147_141 := nH BK141 hg; replace HO144 := aM (Kd.R_below (by (with_reducible repeat (first | apply rA | apply rN | apply rD)); exact HO144.out) hb); replace BK141 := bB BK141 hb; replace HB := tB HB hb; clear hb hbox hg; have hnb65 := NB147_141.out; have hnc65 := NB141_147.out; have hcz66_0 := vZ0 BK147; have hcz66_1 := vZ1 BK147; have hfz66_0 := kF BK147.out 0; have hfz66_1 := kF BK147.out 1; have p148 : 0 ≤ (1 : Int) := (by omega); have q148 : 1 < (t142.length : Int) := dT aQ; obtain ⟨ad148, e148, hx148_0⟩ := Kd.at_string (rR HO144.out).2.2 1 p148 q148; obtain rfl : ad145 = ad148 := (by injection e148); (try simp only [show (1 : Int).toNat = 1 from rfl, Nat.reduceMul, Nat.reduceEqDiff, Go.Addr.add, ↓reduceIte] at hx148_0); have qi148 : (1 < t142.length) = True := eq_true (by omega); (try rw [show ((1 : Int)).toNat = 1 from rfl] at hx148_0); have hn148_0 : ad145.block ≠ gb147 := (by (try dsimp only); first | exact Kd.own_blk (Kd.R_ne HO144.out BK147.out (by decide)) | exact oX (HO144.out.1 _ rfl)); have hn148_1 : ad145.block ≠ gb147 := (by (try dsimp only); first | exact Kd.own_blk (Kd.R_ne HO144.out BK147.out (by decide)) | exact oX (HO144.out.1 _ rfl)); replace hx148_0 := (cell_far (p := ⟨gb147, 0, none⟩) (by first | (rw [add_block]; exact hn148_0) | (show (Addr.add _ _).block ≠ _; rw [add_block]; exact hn148_0) | exact hn148_0) (.int .i64 t146)).trans hx148_0; replace hx148_0 := (cell_far (p := ⟨gb147, 1, none⟩) (by first | (rw [add_block]; exact hn148_1) | (show (Addr.add _ _).block ≠ _; rw [add_block]; exact hn148_1) | exact hn148_1) (.slice none 0 0)).trans hx148_0; clear hn148_0; clear hn148_1; replace p148 := eq_true p148; replace q148 := eq_true q148))
     have n0_ : Aside0 (Kd.R Kd.string 9 ((w64.setCell ⟨gb147, 0, none⟩ (.int .i64 t146)).setCell ⟨gb147, 1, none⟩ (.slice none 0 0)) w.heap.size (fun _ => True) (.slice (some ad145) t142.length co63) t142) := ⟨by (with_reducible repeat (first | apply rA | apply rN | apply rD)); exact Kd.R_mono (Kd.R_far (p := ⟨gb147, 1, none⟩) (Kd.R_far (p := ⟨gb147, 0, none⟩) (Kd.R_types HO144.out BK147.out (by decide)) (fun _ hk => hk.2) (.int .i64 t146)) (fun _ hk => hk.2) (.slice none 0 0)) (fun _ hk => trivial)⟩
     have n1_ : Aside0 (((w64.setCell ⟨gb147, 0, none⟩ (.int .i64 t146)).setCell ⟨gb147, 1, none⟩ (.slice none 0 0)).heap[gb141]? = some (.cells #[.int .i64 0, .slice none 0 0] 24 (0, 0))) := ⟨fQ BK141⟩; have n2_ : Aside0 (((w64.setCell ⟨gb147, 0, none⟩ (.int .i64 t146)).setCell ⟨gb147, 1, none⟩ (.slice none 0 0)).heap[gb147]? = some (.cells #[.int .i64 t146, .slice none 0 0] 24 (0, 0))) := ⟨fQ BK147⟩; have n3_ : Aside0 (Below w.heap.size w ((w64.setCell ⟨gb147, 0, none⟩ (.int .i64 t146)).setCell ⟨gb147, 1, none⟩ (.slice none 0 0))) := ⟨bE⟩; (try clear HO144); (try clear BK141); (try clear BK147); (try clear HB)
     generalize ((w64.setCell ⟨gb147, 0, none⟩ (.int .i64 t146)).setCell ⟨gb147, 1, none⟩ (.slice none 0 0)) = w67 at n0_ n1_ n2_ n3_ ⊢
     have HO144 := n0_; have BK141 := n1_; have BK147 := n2_; have HB := n3_; clear n0_ n1_ n2_ n3_; replace HO144 := aM (rD HO144.out); replace BK141 := aM (kD BK141.out); replace BK147 := aM (kD BK147.out); replace HB := aM (pD HB.out)
     refine start_ (n := 11) (S := fun w' => w'.cell? ⟨gb147, 0, none⟩ = some (.int .i64 t146) ∧ w'.cell? ⟨gb147, 1, none⟩ = some (.slice none 0 0)) (ds := []) (bA 11 0) kR rfl kR ⟨vZ0 BK147, vZ1 BK147⟩ (fun hHeld => ?_); refine with_tabW spec_pzParse.tab16 spec_pzParse.bits16 (fun HT_ HW_ => ?_)
     generalize w67.drew = w68 at HO144 BK141 BK147 HB hHeld ⊢
     refine tU 0 67 (bA 11 1) HT_ HW_ hHeld ?_ (hy := Or.inl ⟨by rfl, by rintro w' ⟨s0, s1⟩; go_simp; with_reducible rfl⟩)
     refine tU 1 68 (bA 11 3) HT_ HW_ hHeld ?_ (hy := Or.inl ⟨by rfl, by rintro w' ⟨s0, s1⟩; go_simp; with_reducible rfl⟩)
     refine oU 2 69 (bA 11 7) HT_ (fun K hK => ?_)
     refine goes_ Tryd.func24 kR rfl #[.agg #[.int .i64 t146, .slice none 0 0]] (by rfl) rfl rfl sQ ?_
     refine (spec_pzGood.calls k t146 _ _ ([] : List (S_impl_Clue)) true _ ?side1 ?side2 A58.out).mono ?_
     (case side1 => exact Kd.C_nil _ _)
     (case side2 => exact Nat.le_refl _)
     rintro e w69 ⟨rfl, hb⟩; refine ⟨_, rfl, ?_⟩; replace HO144 := aM (Kd.R_below (by (with_reducible repeat (first | apply rA | apply rN | apply rD)); exact HO144.out) hb); replace BK141 := bB BK141 hb; replace BK147 := bB BK147 hb; replace HB := tB HB hb
     (try clear hb); (try clear hb2); (try clear hk); (try clear hi)
     refine hK.out _ _ ⟨vZ0 BK147, vZ1 BK147⟩ (fun hHeld => ?_)
     clear hK K
     refine nU ?_
     refine pU 3 70 (bA 11 15) HT_ ?_; refine pU 6 73 (bA 11 79) HT_ ?_
     refine tU 4 71 (bA 11 95) HT_ HW_ hHeld ?_ (hy := Or.inl ⟨by rfl, by rintro w' ⟨s0, s1⟩; go_simp; with_reducible rfl⟩)
     refine oU 5 72 (bA 11 127) HT_ (fun K hK => ?_)
     refine goes_ Tryd.func25 kR rfl #[.agg #[.int .i64 t146, .slice none 0 0]] (by rfl) rfl rfl sQ ?_
     refine (spec_pzText.calls k t146 _ _ ([] : List (S_impl_Clue)) t171 _ ?side1 ?side2 A60.out).mono ?_
     (case side1 => exact Kd.C_nil _ _)
     (case side2 => exact Nat.le_refl _)
     rintro e w70 ⟨rfl, hb⟩; refine ⟨_, rfl, ?_⟩; replace HO144 := aM (Kd.R_below (by (with_reducible repeat (first | apply rA | apply rN | apply rD)); exact HO144.out) hb); replace BK141 := bB BK141 hb; replace BK147 := bB BK147 hb; replace HB := tB HB hb
     (try clear hb); (try clear hb2); (try clear hk); (try clear hi)
     refine hK.out _ _ ⟨vZ0 BK147, vZ1 BK147⟩ (fun hHeld => ?_)
     clear hK K
     refine nU ?_
     refine pU 7 74 (bA 11 255) HT_ ?_; refine pU 8 75 (bA 11 511) HT_ ?_
     refine one_ (i := 9) (N := none) (bA 11 1023) rfl rfl (one_of HT_.out kR) (by decide) (fun K hK => ?_)
     have hs71 : w70.cell? ⟨gb141, 0, none⟩ = some (.int .i64 0) := vZ0 BK141; have hfs71 := kF BK141.out 0; have hns71_1 := NB147_141.out; have hms71_1 := NB141_147.out; have hs72 : w70.cell? ⟨gb141, 1, none⟩ = some (.slice none 0 0) := vZ1 BK141; have hfs72 := kF BK141.out 1; have hns72_1 := NB147_141.out; have hms72_1 := NB141_147.out
     refine skip_ (w1 := ?_) (by rfl) rfl ?_ ?_
     rotate_left
     ·go_simp
      rfl
     refine hK.out _ _ ⟨((cell_far (p := ⟨gb141, _, none⟩) NB147_141.out _).trans (((cell_far (p := ⟨gb141, _, none⟩) NB147_141.out _).trans (hHeld.1)))), ((cell_far (p := ⟨gb141, _, none⟩) NB147_141.out _).trans (((cell_far (p := ⟨gb141, _, none⟩) NB147_141.out _).trans (hHeld.2))))⟩ (fun hHeld => ?_)
     clear hK K; refine pU 10 3 (bA 11 2047) HT_ ?_
     refine done_ (done_of HT_.out kR) ?_
     try go_wp2
     refine bodyPost_ret (results_ct rfl _ _ gb141 24 #[.int .i64 t146, .slice none 0 0] (0, 0) _ rfl (fQ BK141) Tryd.underlying24 rfl kR) rfl ?_
     exact ⟨_, by first | rfl | (simp [errW_none, errW_some] <;> rfl) | (simp [*, errW_none, errW_some] <;> rfl), by first | exact Kd.R_nil _ _ _ _ _ | exact Kd.N_nil _ _ _ _ _ | exact Kd.V_nil _ _ _ _ _ | exact Kd.Q_nil _ _ _ _ _ | exact Kd.S_nil _ _ _ _ _, bE⟩
    ·replace c59 := Bool.eq_false_iff.mpr c59; subst c59; replace H := iF H
     simp only [Option.some.injEq, Prod.mk.injEq] at H
     obtain ⟨rfl, rfl, rfl⟩ := H
     go_enter Tryd.func14, Tryd.ntmps14
     try go_wp2_with (first | ((with_reducible refine gate_dst (N := 2) rfl ?_); refine bV 2 (cs := #[.int .i64 0, .slice none 0 0]) (t := 24) rfl rfl (by first | (go_simp; done) | (go_simp; rfl)) ?_; intro gb141 hg w73 hbox hb; have BK141 := hbox; have GW141 := gZ HB hg; have GE141 := gZ HB hg; replace HB := tB HB hb; clear hb hbox hg) | ((with_reducible refine gC (f := 27) rfl ?_); refine goesL_ (some 14) rfl rfl Tryd.func27 kR rfl #[.string a0, .int .u8 58] rfl sQ ?_; (with_reducible refine (spec_l1Split.calls k a0 58 t142 _ A5.out).mono ?_); rintro e w74 ⟨v143, rfl, ho0, hb⟩; refine ⟨_, rfl, ?_⟩; have HO144 := aM (Kd.R_lower ho0 (pZ bE)); replace BK141 := bB BK141 hb; replace HB := tB HB hb; (try clear hb); (try clear hb2); (try clear hk); (try clear hi); (try clear ho0); obtain ⟨Ao75, co75, eo75⟩ := Kd.R_slice HO144.out; subst eo75; have p145 : 0 ≤ (0 : Int) := (by omega); have q145 : 0 < (t142.length : Int) := dT aQ; obtain ⟨ad145, e145, hx145_0⟩ := Kd.at_string (rR HO144.out).2.2 0 p145 q145; cases e145; have qi145 : (0 < t142.length) = True := eq_true (by omega); (try rw [show ((0 : Int)).toNat = 0 from rfl] at hx145_0); (try rw [Addr.add_zero'] at hx145_0); replace p145 := eq_true p145; replace q145 := eq_true q145) | ((with_reducible refine gC (f := 28) rfl ?_); refine goesL_ (some 22) rfl rfl Tryd.func28 kR rfl #[.string (rdOf ByteArray.empty t142 0)] rfl sQ ?_; (with_reducible refine (spec_l1Read.calls k (rdOf ByteArray.empty t142 0) t146 _ A8.out).mono ?_); rintro e w' ⟨rfl, ⟨nd, rfl⟩⟩; refine ⟨_, rfl, ?_⟩; (try (rw [drewN_self w74]; generalize hq_ : World.drewN w74 _ = w74; have n0_ : Aside0 (Kd.R Kd.string 9 w74 w.heap.size (fun _ => True) (.slice (some ad145) t142.length co75) t142) := ⟨by rw [← hq_]; exact (by (with_reducible repeat (first | apply rA | apply rN | apply rD)); exact HO144.out)⟩; have n1_ : Aside0 (w74.heap[gb141]? = some (.cells #[.int .i64 0, .slice none 0 0] 24 (0, 0))) := ⟨by rw [← hq_]; exact (gQ BK141)⟩; have n2_ : Aside0 (Below w.heap.size w w74) := ⟨by rw [← hq_]; exact bE⟩; clear HO144 BK141 HB hq_; have HO144 := n0_; have BK141 := n1_; have HB := n2_; clear n0_ n1_ n2_))) | ((with_reducible refine gate_dst (N := 5) rfl ?_); refine bV 5 (cs := #[.int .i64 0, .slice none 0 0]) (t := 24) rfl rfl (by first | (go_simp; done) | (go_simp; rfl)) ?_; intro gb147 hg w76 hbox hb; have BK147 := hbox; have GW147 := gZ HB hg; have GE147 := gZ HB hg; have NB141_147 := nG BK141 hg; have NB147_141 := nH BK141 hg; replace HO144 := aM (Kd.R_below (by (with_reducible repeat (first | apply rA | apply rN | apply rD)); exact HO144.out) hb); replace BK141 := bB BK141 hb; replace HB := tB HB hb; clear hb hbox hg; have hnb77 := NB147_141.out; have hnc77 := NB141_147.out; have hcz78_0 := vZ0 BK147; have hcz78_1 := vZ1 BK147; have hfz78_0 := kF BK147.out 0; have hfz78_1 := kF BK147.out 1; have p148 : 0 ≤ (1 : Int) := (by omega); have q148 : 1 < (t142.length : Int) := dT aQ; obtain ⟨ad148, e148, hx148_0⟩ := Kd.at_string (rR HO144.out).2.2 1 p148 q148; obtain rfl : ad145 = ad148 := (by injection e148); (try simp only [show (1 : Int).toNat = 1 from rfl, Nat.reduceMul, Nat.reduceEqDiff, Go.Addr.add, ↓reduceIte] at hx148_0); have qi148 : (1 < t142.length) = True := eq_true (by omega); (try rw [show ((1 : Int)).toNat = 1 from rfl] at hx148_0); have hn148_0 : ad145.block ≠ gb147 := (by (try dsimp only); first | exact Kd.own_blk (Kd.R_ne HO144.out BK147.out (by decide)) | exact oX (HO144.out.1 _ rfl)); have hn148_1 : ad145.block ≠ gb147 := (by (try dsimp only); first | exact Kd.own_blk (Kd.R_ne HO144.out BK147.out (by decide)) | exact oX (HO144.out.1 _ rfl)); replace hx148_0 := (cell_far (p := ⟨gb147, 0, none⟩) (by first | (rw [add_block]; exact hn148_0) | (show (Addr.add _ _).block ≠ _; rw [add_block]; exact hn148_0) | exact hn148_0) (.int .i64 t146)).trans hx148_0; replace hx148_0 := (cell_far (p := ⟨gb147, 1, none⟩) (by first | (rw [add_block]; exact hn148_1) | (show (Addr.add _ _).block ≠ _; rw [add_block]; exact hn148_1) | exact hn148_1) (.slice none 0 0)).trans hx148_0; clear hn148_0; clear hn148_1; replace p148 := eq_true p148; replace q148 := eq_true q148))
     have n0_ : Aside0 (Kd.R Kd.string 9 ((w76.setCell ⟨gb147, 0, none⟩ (.int .i64 t146)).setCell ⟨gb147, 1, none⟩ (.slice none 0 0)) w.heap.size (fun _ => True) (.slice (some ad145) t142.length co75) t142) := ⟨by (with_reducible repeat (first | apply rA | apply rN | apply rD)); exact Kd.R_mono (Kd.R_far (p := ⟨gb147, 1, none⟩) (Kd.R_far (p := ⟨gb147, 0, none⟩) (Kd.R_types HO144.out BK147.out (by decide)) (fun _ hk => hk.2) (.int .i64 t146)) (fun _ hk => hk.2) (.slice none 0 0)) (fun _ hk => trivial)⟩
     have n1_ : Aside0 (((w76.setCell ⟨gb147, 0, none⟩ (.int .i64 t146)).setCell ⟨gb147, 1, none⟩ (.slice none 0 0)).heap[gb141]? = some (.cells #[.int .i64 0, .slice none 0 0] 24 (0, 0))) := ⟨fQ BK141⟩; have n2_ : Aside0 (((w76.setCell ⟨gb147, 0, none⟩ (.int .i64 t146)).setCell ⟨gb147, 1, none⟩ (.slice none 0 0)).heap[gb147]? = some (.cells #[.int .i64 t146, .slice none 0 0] 24 (0, 0))) := ⟨fQ BK147⟩; have n3_ : Aside0 (Below w.heap.size w ((w76.setCell ⟨gb147, 0, none⟩ (.int .i64 t146)).setCell ⟨gb147, 1, none⟩ (.slice none 0 0))) := ⟨bE⟩; (try clear HO144); (try clear BK141); (try clear BK147); (try clear HB)
     generalize ((w76.setCell ⟨gb147, 0, none⟩ (.int .i64 t146)).setCell ⟨gb147, 1, none⟩ (.slice none 0 0)) = w79 at n0_ n1_ n2_ n3_ ⊢
     have HO144 := n0_; have BK141 := n1_; have BK147 := n2_; have HB := n3_; clear n0_ n1_ n2_ n3_; replace HO144 := aM (rD HO144.out); replace BK141 := aM (kD BK141.out); replace BK147 := aM (kD BK147.out); replace HB := aM (pD HB.out)
     refine start_ (n := 11) (S := fun w' => w'.cell? ⟨gb147, 0, none⟩ = some (.int .i64 t146) ∧ w'.cell? ⟨gb147, 1, none⟩ = some (.slice none 0 0)) (ds := []) (bA 11 0) kR rfl kR ⟨vZ0 BK147, vZ1 BK147⟩ (fun hHeld => ?_); refine with_tabW spec_pzParse.tab16 spec_pzParse.bits16 (fun HT_ HW_ => ?_)
     generalize w79.drew = w80 at HO144 BK141 BK147 HB hHeld ⊢
     refine tU 0 67 (bA 11 1) HT_ HW_ hHeld ?_ (hy := Or.inl ⟨by rfl, by rintro w' ⟨s0, s1⟩; go_simp; with_reducible rfl⟩)
     refine tU 1 68 (bA 11 3) HT_ HW_ hHeld ?_ (hy := Or.inl ⟨by rfl, by rintro w' ⟨s0, s1⟩; go_simp; with_reducible rfl⟩)
     refine oU 2 69 (bA 11 7) HT_ (fun K hK => ?_)
     refine goes_ Tryd.func24 kR rfl #[.agg #[.int .i64 t146, .slice none 0 0]] (by rfl) rfl rfl sQ ?_
     refine (spec_pzGood.calls k t146 _ _ ([] : List (S_impl_Clue)) false _ ?side1 ?side2 A58.out).mono ?_
     (case side1 => exact Kd.C_nil _ _)
     (case side2 => exact Nat.le_refl _)
     rintro e w81 ⟨rfl, hb⟩; refine ⟨_, rfl, ?_⟩; replace HO144 := aM (Kd.R_below (by (with_reducible repeat (first | apply rA | apply rN | apply rD)); exact HO144.out) hb); replace BK141 := bB BK141 hb; replace BK147 := bB BK147 hb; replace HB := tB HB hb
     (try clear hb); (try clear hb2); (try clear hk); (try clear hi)
     refine hK.out _ _ ⟨vZ0 BK147, vZ1 BK147⟩ (fun hHeld => ?_)
     clear hK K
     refine nU ?_
     refine pU 3 70 (bA 11 15) HT_ ?_; refine pU 4 71 (bA 11 31) HT_ ?_ (hy := Or.inr ⟨by rfl, rfl⟩)
     refine pU 5 72 (bA 11 63) HT_ ?_ (hy := Or.inr ⟨by rfl, rfl⟩)
     refine pU 6 73 (bA 11 127) HT_ ?_ (hy := Or.inr ⟨by rfl, rfl⟩)
     refine pU 7 74 (bA 11 255) HT_ ?_ (hy := Or.inr ⟨by rfl, rfl⟩)
     refine pU 8 75 (bA 11 511) HT_ ?_
     refine one_ (i := 9) (N := none) (bA 11 1023) rfl rfl (one_of HT_.out kR) (by decide) (fun K hK => ?_)
     have hs82 : w81.cell? ⟨gb141, 0, none⟩ = some (.int .i64 0) := vZ0 BK141; have hfs82 := kF BK141.out 0; have hns82_1 := NB147_141.out; have hms82_1 := NB141_147.out; have hs83 : w81.cell? ⟨gb141, 1, none⟩ = some (.slice none 0 0) := vZ1 BK141; have hfs83 := kF BK141.out 1; have hns83_1 := NB147_141.out; have hms83_1 := NB141_147.out
     refine skip_ (w1 := ?_) (by rfl) rfl ?_ ?_
     rotate_left
     ·go_simp
      rfl
     refine hK.out _ _ ⟨((cell_far (p := ⟨gb141, _, none⟩) NB147_141.out _).trans (((cell_far (p := ⟨gb141, _, none⟩) NB147_141.out _).trans (hHeld.1)))), ((cell_far (p := ⟨gb141, _, none⟩) NB147_141.out _).trans (((cell_far (p := ⟨gb141, _, none⟩) NB147_141.out _).trans (hHeld.2))))⟩ (fun hHeld => ?_)
     clear hK K; refine pU 10 3 (bA 11 2047) HT_ ?_
     refine done_ (done_of HT_.out kR) ?_
     try go_wp2
     refine bodyPost_ret (results_ct rfl _ _ gb141 24 #[.int .i64 t146, .slice none 0 0] (0, 0) _ rfl (fQ BK141) Tryd.underlying24 rfl kR) rfl ?_
     exact ⟨_, by first | rfl | (simp [errW_none, errW_some] <;> rfl) | (simp [*, errW_none, errW_some] <;> rfl), by first | exact Kd.R_nil _ _ _ _ _ | exact Kd.N_nil _ _ _ _ _ | exact Kd.V_nil _ _ _ _ _ | exact Kd.Q_nil _ _ _ _ _ | exact Kd.S_nil _ _ _ _ _, bE⟩
  ·rw [if_neg c6] at H; have c6b0 : ((t142.length : Int) == 2) = false := beq_eq_false_iff_ne.mpr c6; have c6b1 : ((t142.length : Int) != 2) = true := bne_iff_ne.mpr c6
   simp only [Option.some.injEq, Prod.mk.injEq] at H
   obtain ⟨rfl, rfl, rfl⟩ := H
   go_enter Tryd.func14, Tryd.ntmps14
   go_wp2_with (first | ((with_reducible refine gate_dst (N := 2) rfl ?_); refine bV 2 (cs := #[.int .i64 0, .slice none 0 0]) (t := 24) rfl rfl (by first | (go_simp; done) | (go_simp; rfl)) ?_; intro gb141 hg w84 hbox hb; have BK141 := hbox; have GW141 := gZ HB hg; have GE141 := gZ HB hg; replace HB := tB HB hb; clear hb hbox hg) | ((with_reducible refine gC (f := 27) rfl ?_); refine goesL_ (some 14) rfl rfl Tryd.func27 kR rfl #[.string a0, .int .u8 58] rfl sQ ?_; (with_reducible refine (spec_l1Split.calls k a0 58 t142 _ A5.out).mono ?_); rintro e w85 ⟨v143, rfl, ho0, hb⟩; refine ⟨_, rfl, ?_⟩; have HO144 := aM (Kd.R_lower ho0 (pZ bE)); replace BK141 := bB BK141 hb; replace HB := tB HB hb; (try clear hb); (try clear hb2); (try clear hk); (try clear hi); (try clear ho0); obtain ⟨Ao86, co86, eo86⟩ := Kd.R_slice HO144.out; subst eo86; have hcz87_0 := vZ0 BK141; have hcz87_1 := vZ1 BK141; have hfz87_0 := kF BK141.out 0; have hfz87_1 := kF BK141.out 1))
   refine bodyPost_ret (results_ct rfl _ _ gb141 24 #[.int .i64 0, .slice none 0 0] (0, 0) _ rfl (fQ BK141) Tryd.underlying24 rfl kR) rfl ?_
   exact ⟨_, by first | rfl | (simp [errW_none, errW_some] <;> rfl) | (simp [*, errW_none, errW_some] <;> rfl), by first | exact Kd.R_nil _ _ _ _ _ | exact Kd.N_nil _ _ _ _ _ | exact Kd.V_nil _ _ _ _ _ | exact Kd.Q_nil _ _ _ _ _ | exact Kd.S_nil _ _ _ _ _, bE⟩

end Go.Proofs.YtoeclfihlhmnpaaDoor.X
