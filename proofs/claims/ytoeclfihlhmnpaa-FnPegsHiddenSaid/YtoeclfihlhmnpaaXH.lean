import Derived.Test.YtoeclfihlhmnpaaXD
import Derived.Test.YtoeclfihlhmnpaaXM2
import Derived.Test.YtoeclfihlhmnpaaBHid
import Derived.Test.YtoeclfihlhmnpaaX0
import Derived.Test.YtoeclfihlhmnpaaX1
import Derived.Test.YtoeclfihlhmnpaaX2
import Derived.Test.YtoeclfihlhmnpaaX3
import Derived.Test.YtoeclfihlhmnpaaX4
import Derived.Test.YtoeclfihlhmnpaaX5
import Derived.Test.YtoeclfihlhmnpaaX6
import Derived.Test.YtoeclfihlhmnpaaX7
import Derived.Test.YtoeclfihlhmnpaaX8
import Derived.Test.YtoeclfihlhmnpaaX9
import Derived.Test.YtoeclfihlhmnpaaX10
import Derived.Test.YtoeclfihlhmnpaaX11
import Derived.Test.YtoeclfihlhmnpaaX12
import Derived.Test.YtoeclfihlhmnpaaX13
import Derived.Test.YtoeclfihlhmnpaaX14
import Derived.Test.YtoeclfihlhmnpaaX15
import Derived.Test.YtoeclfihlhmnpaaX16
import Derived.Test.YtoeclfihlhmnpaaX17
namespace Go.Proofs.Ytoeclfihlhmnpaa.Hd
open Go Go.RowKit Go.Proofs.Ytoeclfihlhmnpaa.XW Go.Proofs.YtoeclfihlhmnpaaW.PrintWords Go.Proofs.YtoeclfihlhmnpaaW.PrintLast Go.Proofs.Ytoeclfihlhmnpaa.X Go.Proofs.Ytoeclfihlhmnpaa.Ex
set_option linter.unusedVariables false
set_option linter.unusedSimpArgs false
open Go.Proofs.Ytoeclfihlhmnpaa.B (hid_g1 hid_g2 hid_g3 hid_g4 hid_g5 hid_g6)
def law.T40 : Bool × List (List Nat × List Nat) := (true, [([], []), ([], []), ([0, 1], [0, 1]), ([2], [2]), ([3], [3]), ([3], [3]), ([4, 5, 3, 3], [3, 4, 5]), ([6, 3], [3, 6]), ([3, 7], [3, 7]), ([8, 6], [8]), ([9], [9]), ([9], [9]), ([10, 11, 9], [9, 10, 11]), ([9, 12], [9, 12]), ([13, 9], [13]), ([14], [14]), ([14], [14]), ([15, 16, 14, 14], [14, 15, 16]), ([17, 14], [14, 17]), ([14, 18], [14, 18]), ([19, 17], [19]), ([20], [20]), ([20], [20]), ([21, 22, 20], [20, 21, 22]), ([20, 23], [20, 23]), ([24, 20], [24]), ([25], [25]), ([25], [25]), ([26, 27, 25], [25, 26, 27]), ([25, 28], [25, 28]), ([29, 25], [29]), ([30], [30]), ([30], [30]), ([31, 32, 30, 30], [30, 31, 32]), ([30], [30]), ([30], [30]), ([34, 35, 33, 30], [30, 34, 35]), ([33, 36, 30], [30, 33, 36]), ([30, 37], [30, 37]), ([38, 36], [38]), ([39], [39]), ([40, 39, 39], [39, 40]), ([41], [41]), ([41], [41]), ([42, 43, 41, 41], [41, 42, 43]), ([44, 41], [41, 44]), ([41, 45, 39], [39, 41, 45]), ([39, 46], [39, 46])])
def law.B40 : List Nat := [0, 0, 3, 7, 15, 15, 63, 127, 255, 511, 1023, 1023, 4095, 8191, 16383, 32767, 32767, 131071, 262143, 524287, 1048575, 2097151, 2097151, 8388607, 16777215, 33554431, 67108863, 67108863, 268435455, 536870911, 1073741823, 2147483647, 2147483647, 8589934591, 2147483647, 2147483647, 68719476735, 137438953471, 274877906943, 549755813887, 1099511627775, 2199023255551, 4398046511103, 4398046511103, 17592186044415, 35184372088831, 70368744177663, 140737488355327]
theorem law.tab40 : rtab .any (opsOf Try.f4 40) = law.T40 := by kernel_rfl
theorem law.bits40 : waitsOk law.T40.2 law.B40 = true := by kernel_rfl
def law.T48 : Bool × List (List Nat × List Nat) := (true, [([], []), ([0], [0]), ([1], [1]), ([2], [2]), ([2], [2]), ([3, 4, 2, 2], [2, 3, 4]), ([5, 2], [2, 5]), ([2, 6], [2, 6]), ([7, 5], [7]), ([8], [8]), ([9, 8], [8, 9]), ([8], [8]), ([11, 8], [8, 11]), ([12, 8], [8, 12]), ([10, 13, 8], [8, 10, 13]), ([14, 8], [8, 14]), ([8], [8]), ([15, 16, 8], [8, 15, 16]), ([8, 17], [8, 17])])
def law.B48 : List Nat := [0, 1, 3, 7, 7, 31, 63, 127, 255, 511, 1023, 511, 2559, 6655, 16383, 32767, 511, 131071, 262143]
theorem law.tab48 : rtab .any (opsOf Try.f4 48) = law.T48 := by kernel_rfl
theorem law.bits48 : waitsOk law.T48.2 law.B48 = true := by kernel_rfl
def law.T51 : Bool × List (List Nat × List Nat) := (true, [([], []), ([], []), ([1], [1]), ([], []), ([2, 3], [2, 3]), ([4], [4]), ([0, 5], [0, 5]), ([6], [6]), ([7], [7]), ([7], [7]), ([], []), ([10, 8, 6, 0, 1, 2, 3, 4, 5, 6, 7, 8, 10], [8, 10]), ([9, 11, 0, 1, 2, 3, 4, 5, 6, 7, 8, 9, 10, 11], [9])])
def law.B51 : List Nat := [0, 0, 2, 0, 14, 30, 63, 127, 255, 255, 0, 1535, 4095]
theorem law.tab51 : rtab .any (opsOf Try.f4 51) = law.T51 := by kernel_rfl
theorem law.bits51 : waitsOk law.T51.2 law.B51 = true := by kernel_rfl
set_option maxHeartbeats 8000000 in
set_option maxRecDepth 100000 in
theorem walk (A0 : Option Addr) (c0 : Nat) (l0 : List Int) (A1 : Option Addr) (c1 : Nat) (l1 : List Int) (w0 : World) (hr0 : Kd.C (Kd.int .u8) w0 A0 l0.length l0) (hc0 : l0.length ≤ c0) (hr1 : Kd.C (Kd.int .u8) w0 A1 l1.length l1) (hc1 : l1.length ≤ c1) (hb : laws_big.f l0 l1 = some false) (hy0 : ∀ x ∈ l0, 0 ≤ x ∧ x < 256) (hy1 : ∀ x ∈ l1, 0 ≤ x ∧ x < 256) :
    Calls Try.prog 4 #[.slice A0 l0.length c0, .slice A1 l1.length c1] w0 fun e w' => e = .returned (.bool true) ∧ Below w0.heap.size w0 w' := by
  refine Ex.start (N := 412) [.slice A0 l0.length c0, .slice A1 l1.length c1] Try.func4 rfl (by kernel_rfl) (by simp) fun a HF => ?_
  have HM := Me.start w0
  (repeat (first | (refine sA HF ?_; clear HF a; intro a HF) | (refine sB HF HM ?_; clear HF a; intro a HF) | (refine aA HF HM ?_; clear HF HM a; intro g a w HF HM) | (refine so HF HM ?_; clear HM; intro w HM) | refine gy HF ?_ | ((first | refine gn HF ?_ | refine gu HF ?_); clear HF a; intro a HF) | refine rn ?_ | refine rg ?_ | refine sk ?_ | refine cF HF ?_ | refine cT HF ?_))
  refine sq ?_
  (repeat (first | (refine cl (f := 14) HF Try.func14 (by kernel_rfl) ?_; (with_reducible refine (laws_big.calls A0 c0 l0 A1 c1 l1 false _ (Kd.C_below hr0 HM.bel) hc0 (Kd.C_below hr1 HM.bel) hc1 hb).mono ?_); rintro e w1 ⟨rfl, ⟨nd, rfl⟩⟩; refine ⟨_, rfl, ?_⟩; replace HM := HM.call (pw_below_drewN (Below.refl _ _) nd); clear HF a; intro a HF) | (refine cl (f := 15) HF Try.func15 (by kernel_rfl) ?_; (with_reducible refine (drawMake (Kd.C_below hr0 HM.bel) hc0 hy0).mono ?_); rintro e w1 ⟨s1, x1, y1, n1, z1, rfl, hb_⟩; refine ⟨_, rfl, ?_⟩; replace HM := HM.call hb_; clear HF a; intro a HF) | (refine sA HF ?_; clear HF a; intro a HF) | (refine sB HF HM ?_; clear HF a; intro a HF) | (refine aA HF HM ?_; clear HF HM a; intro g a w HF HM) | (refine so HF HM ?_; clear HM; intro w HM) | refine gy HF ?_ | ((first | refine gn HF ?_ | refine gu HF ?_); clear HF a; intro a HF) | refine rn ?_ | refine rg ?_ | refine sk ?_ | refine cF HF ?_ | refine cT HF ?_))
  obtain ⟨s, l, ok, e1, e2, k, e3, e4⟩ := make s1 x1 y1 n1 z1
  (repeat (first | (refine cl (f := 16) HF Try.func16 (by kernel_rfl) ?_; (with_reducible refine (e1 _).mono ?_); rintro e w1 ⟨v_, rfl, hR_, hb_⟩; obtain ⟨A2, cA2, rfl⟩ := Kd.R_slice hR_; refine ⟨_, rfl, ?_⟩; replace HM := HM.row hR_ hb_; clear HF a; intro a HF) | (refine cl (f := 17) HF Try.func17 (by kernel_rfl) ?_; (with_reducible refine (e2 _).mono ?_); rintro e w1 ⟨v_, rfl, hR_, hb_⟩; obtain ⟨A3, cA3, rfl⟩ := Kd.R_slice hR_; refine ⟨_, rfl, ?_⟩; replace HM := HM.row hR_ hb_; clear HF a; intro a HF) | (refine sA HF ?_; clear HF a; intro a HF) | (refine sB HF HM ?_; clear HF a; intro a HF) | (refine aA HF HM ?_; clear HF HM a; intro g a w HF HM) | (refine so HF HM ?_; clear HM; intro w HM) | refine gy HF ?_ | ((first | refine gn HF ?_ | refine gu HF ?_); clear HF a; intro a HF) | refine rn ?_ | refine rg ?_ | refine sk ?_ | refine cF HF ?_ | refine cT HF ?_))
  refine sq ?_
  (repeat (first | (refine cl (f := 18) HF Try.func18 (by kernel_rfl) ?_; (with_reducible refine (laws_ePuzzle.calls k s A2 cA2 l s A3 cA3 l true _ HM.C1 HM.C2 HM.C1 HM.C2 e3).mono ?_); rintro e w1 ⟨rfl, hb_⟩; refine ⟨_, rfl, ?_⟩; replace HM := HM.call hb_; clear HF a; intro a HF) | (refine sA HF ?_; clear HF a; intro a HF) | (refine sB HF HM ?_; clear HF a; intro a HF) | (refine aA HF HM ?_; clear HF HM a; intro g a w HF HM) | (refine so HF HM ?_; clear HM; intro w HM) | refine gy HF ?_ | ((first | refine gn HF ?_ | refine gu HF ?_); clear HF a; intro a HF) | refine rn ?_ | refine rg ?_ | refine sk ?_ | refine cF HF ?_ | refine cT HF ?_))
  refine cu HF HM [(1, .slice A1 l1.length c1)] [] [] (fun K hK => ?_) ?_
  · refine rg ?_
    (repeat (first | (refine sA HF ?_; clear HF a; intro a HF) | (refine sB HF HM ?_; clear HF a; intro a HF) | (refine aA HF HM ?_; clear HF HM a; intro g a w HF HM) | (refine so HF HM ?_; clear HM; intro w HM) | refine gy HF ?_ | ((first | refine gn HF ?_ | refine gu HF ?_); clear HF a; intro a HF)))
    refine rn ?_
    cases ok with
    | false => refine cF HF ?_; exact sk0 (hK _ _ (HF.sub) (HM.sub (by repeat (first | exact List.Sublist.refl _ | exact List.nil_sublist _ | apply List.Sublist.cons_cons | apply List.Sublist.cons)) (by repeat (first | exact List.Sublist.refl _ | exact List.nil_sublist _ | apply List.Sublist.cons_cons | apply List.Sublist.cons))))
    | true =>
      obtain ⟨f1, f2, f3, f4⟩ := e4 rfl
      subst f2 f3
      clear e1 e2 e3 e4
      refine cT HF (sq ?_)
      (repeat (first | (refine cl (f := 19) HF Try.func19 (by kernel_rfl) ?_; (with_reducible refine (impl_IsPuzzle.calls k s1 A2 cA2 l true _ HM.C1 HM.C2 f1).mono ?_); rintro e w1 ⟨rfl, hb_⟩; refine ⟨_, rfl, ?_⟩; replace HM := HM.call hb_; clear HF a; intro a HF) | (refine sA HF ?_; clear HF a; intro a HF) | (refine sB HF HM ?_; clear HF a; intro a HF) | (refine aA HF HM ?_; clear HF HM a; intro g a w HF HM) | (refine so HF HM ?_; clear HM; intro w HM) | refine gy HF ?_ | ((first | refine gn HF ?_ | refine gu HF ?_); clear HF a; intro a HF) | refine rn ?_ | refine rg ?_ | refine sk ?_ | refine cF HF ?_ | refine cT HF ?_))
      refine bk (lp (fun n a w => ∃ (G1 i : Nat), i + n = l.length ∧ Fr 412 a [(112, .int .i64 i), (110, .slice A2 l.length cA2), (111, .int .i64 l.length), (5, .int .i64 s1), (6, .pointer (some ⟨G1, 0, none⟩)), (1, .slice A1 l1.length c1)] ∧ Me w0 w0 none w [⟨G1, 41, [.int .i64 x1, .int .i64 y1]⟩] [⟨kd_impl_Clue, 48, .slice A2 l.length cA2, l⟩]) l.length ⟨_, 0, by omega, HF.sub, HM.sub (by repeat (first | exact List.Sublist.refl _ | exact List.nil_sublist _ | apply List.Sublist.cons_cons | apply List.Sublist.cons)) (by repeat (first | exact List.Sublist.refl _ | exact List.nil_sublist _ | apply List.Sublist.cons_cons | apply List.Sublist.cons))⟩ ?_)
      clear HF HM
      rintro n a w ⟨G1, i, hi, HF, HM⟩ K2 hK2
      have hmx := (HM.C1 : Kd.C kd_impl_Clue w A2 l.length l).2.1
      by_cases hlt : i < l.length
      · obtain ⟨ad, rfl⟩ := clue_at HM.C1 i (by omega) (by omega)
        have f5 := f4 _ (rd_mem l i hlt)
        (repeat (first | (refine sA HF ?_; clear HF a; intro a HF) | (refine sB HF HM ?_; clear HF a; intro a HF) | (refine aA HF HM ?_; clear HF HM a; intro g a w HF HM) | (refine so HF HM ?_; clear HM; intro w HM) | refine gy HF ?_ | ((first | refine gn HF ?_ | refine gu HF ?_); clear HF a; intro a HF) | refine rn ?_ | refine rg ?_ | refine sk ?_ | refine cF HF ?_ | refine cT HF ?_ | refine skB ?_))
        refine sq ?_
        (repeat (first | (refine sA HF ?_; clear HF a; intro a HF) | (refine sB HF HM ?_; clear HF a; intro a HF) | (refine aA HF HM ?_; clear HF HM a; intro g a w HF HM) | (refine so HF HM ?_; clear HM; intro w HM) | refine gy HF ?_ | ((first | refine gn HF ?_ | refine gu HF ?_); clear HF a; intro a HF) | refine rn ?_ | refine rg ?_ | refine cT HF ?_ | refine sk ?_))
        refine sq (bk ?_)
        (repeat (first | (refine cl (f := 20) HF Try.func20 (by kernel_rfl) ?_; (with_reducible refine (impl_DoesFit.calls k s1 _ _ _ _ x1 y1 true true _ f5).mono ?_); rintro e w1 ⟨rfl, hb_⟩; refine ⟨_, rfl, ?_⟩; replace HM := HM.call hb_; clear HF a; intro a HF) | (refine sA HF ?_; clear HF a; intro a HF) | (refine sB HF HM ?_; clear HF a; intro a HF) | (refine aA HF HM ?_; clear HF HM a; intro g a w HF HM) | (refine so HF HM ?_; clear HM; intro w HM) | refine gy HF ?_ | ((first | refine gn HF ?_ | refine gu HF ?_); clear HF a; intro a HF) | refine rn ?_ | refine rg ?_ | refine sk ?_ | refine cF HF ?_ | refine cT HF ?_ | refine skB ?_))
        refine rl ?_
        (repeat (first | (refine sA HF ?_; clear HF a; intro a HF) | (refine sB HF HM ?_; clear HF a; intro a HF) | (refine aA HF HM ?_; clear HF HM a; intro g a w HF HM) | (refine so HF HM ?_; clear HM; intro w HM) | refine gy HF ?_ | ((first | refine gn HF ?_ | refine gu HF ?_); clear HF a; intro a HF)))
        exact nl (hK2 (n - 1) _ _ (by omega) ⟨_, i + 1, by omega, Fr.sub (HF.re (show _ = Value.int .i64 ((i + 1 : Nat) : Int) from by first | rfl | (rw [wr]; rfl))), HM.sub (by repeat (first | exact List.Sublist.refl _ | exact List.nil_sublist _ | apply List.Sublist.cons_cons | apply List.Sublist.cons)) (by repeat (first | exact List.Sublist.refl _ | exact List.nil_sublist _ | apply List.Sublist.cons_cons | apply List.Sublist.cons))⟩)
      · (repeat (first | (refine sA HF ?_; clear HF a; intro a HF) | (refine sB HF HM ?_; clear HF a; intro a HF) | (refine aA HF HM ?_; clear HF HM a; intro g a w HF HM) | (refine so HF HM ?_; clear HM; intro w HM) | refine gy HF ?_ | ((first | refine gn HF ?_ | refine gu HF ?_); clear HF a; intro a HF) | refine rn ?_ | refine rg ?_))
        refine sq (cF HF ?_)
        refine xe ?_
        repeat refine xt ?_
        exact ib (hK _ _ HF.sub (HM.sub (by repeat (first | exact List.Sublist.refl _ | exact List.nil_sublist _ | apply List.Sublist.cons_cons | apply List.Sublist.cons)) (by repeat (first | exact List.Sublist.refl _ | exact List.nil_sublist _ | apply List.Sublist.cons_cons | apply List.Sublist.cons))))
  · clear HF HM a; intro a w HF HM
    (repeat (first | (refine cl (f := 21) HF Try.func21 (by kernel_rfl) ?_; (with_reducible refine (drawHarder mks pzs (Kd.C_below hr1 HM.bel) hc1 hy1).mono ?_); rintro e w1 ⟨s2, A4, c4, l2, rfl, hR_, hl2, hb_⟩; refine ⟨_, rfl, ?_⟩; replace HM := HM.row hR_ hb_; clear HF a; intro a HF) | (refine sA HF ?_; clear HF a; intro a HF) | (refine sB HF HM ?_; clear HF a; intro a HF) | (refine aA HF HM ?_; clear HF HM a; intro g a w HF HM) | (refine so HF HM ?_; clear HM; intro w HM) | refine gy HF ?_ | ((first | refine gn HF ?_ | refine gu HF ?_); clear HF a; intro a HF) | refine rn ?_ | refine rg ?_ | refine sk ?_ | refine cF HF ?_ | refine cT HF ?_))
    obtain ⟨k2, s3, l3, one, solved, three, e1, e2, e3, e4, e5, e6⟩ := hid_g2 s2 l2 hl2
    (repeat (first | (refine cl (f := 22) HF Try.func22 (by kernel_rfl) ?_; (with_reducible refine (impl_HarderPuzzle.calls k2 s2 A4 c4 l2 s3 l3 one _ HM.C1 HM.C2 e1).mono ?_); rintro e w1 ⟨v_, rfl, hR_, hb_⟩; obtain ⟨A5, cA5, rfl⟩ := Kd.R_slice hR_; refine ⟨_, rfl, ?_⟩; replace HM := HM.row hR_ hb_; clear HF a; intro a HF) | (refine cl (f := 23) HF Try.func23 (by kernel_rfl) ?_; (with_reducible refine (spec_HarderPuzzle.calls k2 s2 A4 c4 l2 s3 l3 one _ HM.C1 HM.C2 e2).mono ?_); rintro e w1 ⟨v_, rfl, hR_, hb_⟩; obtain ⟨A6, cA6, rfl⟩ := Kd.R_slice hR_; refine ⟨_, rfl, ?_⟩; replace HM := HM.row hR_ hb_; clear HF a; intro a HF) | (refine cl (f := 24) HF Try.func24 (by kernel_rfl) ?_; (with_reducible refine (impl_IsSolved.calls k2 s2 A4 c4 l2 solved three _ HM.C1 HM.C2 e4).mono ?_); rintro e w1 ⟨rfl, hb_⟩; refine ⟨_, rfl, ?_⟩; replace HM := HM.call hb_; clear HF a; intro a HF) | (refine sA HF ?_; clear HF a; intro a HF) | (refine sB HF HM ?_; clear HF a; intro a HF) | (refine aA HF HM ?_; clear HF HM a; intro g a w HF HM) | (refine so HF HM ?_; clear HM; intro w HM) | refine gy HF ?_ | ((first | refine gn HF ?_ | refine gu HF ?_); clear HF a; intro a HF) | refine rn ?_ | refine rg ?_ | refine sk ?_ | refine cF HF ?_ | refine cT HF ?_))
    refine cs [19, 17, 18, 1] [1, 2] [1, 2] HF HM (fun K hK => ?_) ?_
    · subst e5
      cases three <;> cases solved
      all_goals
        (repeat (first | refine rg ?_ | (refine cl (f := 18) HF Try.func18 (by kernel_rfl) ?_; (with_reducible refine (laws_ePuzzle.calls k2 s3 A5 cA5 l3 s3 A6 cA6 l3 true _ HM.C1 HM.C2 HM.C1 HM.C2 e3).mono ?_); rintro e w1 ⟨rfl, hb_⟩; refine ⟨_, rfl, ?_⟩; replace HM := HM.call hb_; clear HF a; intro a HF) | (refine sA HF ?_; clear HF a; intro a HF) | (refine sB HF HM ?_; clear HF a; intro a HF) | (refine aA HF HM ?_; clear HF HM a; intro g a w HF HM) | (refine so HF HM ?_; clear HM; intro w HM) | refine gy HF ?_ | ((first | refine gn HF ?_ | refine gu HF ?_); clear HF a; intro a HF) | refine rn ?_ | refine cF HF ?_))
        exact sk0 (hK _ _ (HF.sub) (HM.sub (by repeat (first | exact List.Sublist.refl _ | exact List.nil_sublist _ | apply List.Sublist.cons_cons | apply List.Sublist.cons)) (by repeat (first | exact List.Sublist.refl _ | exact List.nil_sublist _ | apply List.Sublist.cons_cons | apply List.Sublist.cons))))
    · clear HF HM a; intro a w HF HM
      refine cs [1] [] [] HF HM (fun K hK => ?_) ?_
      · refine rg ?_
        (repeat (first | (refine sA HF ?_; clear HF a; intro a HF) | (refine sB HF HM ?_; clear HF a; intro a HF) | (refine aA HF HM ?_; clear HF HM a; intro g a w HF HM) | (refine so HF HM ?_; clear HM; intro w HM) | refine gy HF ?_ | ((first | refine gn HF ?_ | refine gu HF ?_); clear HF a; intro a HF)))
        refine rn ?_
        cases one with
        | false => refine cF HF ?_; exact sk0 (hK _ _ (HF.sub) (HM.sub (by repeat (first | exact List.Sublist.refl _ | exact List.nil_sublist _ | apply List.Sublist.cons_cons | apply List.Sublist.cons)) (by repeat (first | exact List.Sublist.refl _ | exact List.nil_sublist _ | apply List.Sublist.cons_cons | apply List.Sublist.cons))))
        | true =>
          obtain ⟨ps, f1, f2, f3, f4, f5⟩ := e6 rfl
          refine cT HF ?_
          (repeat (first | (refine cl (f := 25) HF Try.func25 (by kernel_rfl) ?_; (with_reducible refine (impl_Solutions.calls k2 s2 A4 c4 l2 ps true _ HM.C1 HM.C2 f1).mono ?_); rintro e w1 ⟨v_, rfl, hR_, hb_⟩; obtain ⟨A7, cA7, rfl⟩ := Kd.R_slice hR_; refine ⟨_, rfl, ?_⟩; replace HM := HM.row hR_ hb_; clear HF a; intro a HF) | (refine cl (f := 25) HF Try.func25 (by kernel_rfl) ?_; (with_reducible refine (impl_Solutions.calls k2 s3 A5 cA5 l3 ps true _ HM.C1 HM.C2 f2).mono ?_); rintro e w1 ⟨v_, rfl, hR_, hb_⟩; obtain ⟨A8, cA8, rfl⟩ := Kd.R_slice hR_; refine ⟨_, rfl, ?_⟩; replace HM := HM.row hR_ hb_; clear HF a; intro a HF) | (refine cl (f := 26) HF Try.func26 (by kernel_rfl) ?_; (with_reducible refine (impl_NeedlessClues.calls k2 s3 A5 cA5 l3 [] true _ HM.C1 HM.C2 f4).mono ?_); rintro e w1 ⟨v_, rfl, hR_, hb_⟩; obtain ⟨A9, cA9, rfl⟩ := Kd.R_slice hR_; refine ⟨_, rfl, ?_⟩; replace HM := HM.row hR_ hb_; clear HF a; intro a HF) | (refine cl (f := 27) HF Try.func27 (by kernel_rfl) ?_; (with_reducible refine (laws_ePegs.calls k2 A7 cA7 ps A8 cA8 ps true _ HM.C1 HM.C2 HM.C1 HM.C2 f3).mono ?_); rintro e w1 ⟨rfl, ⟨nd, rfl⟩⟩; refine ⟨_, rfl, ?_⟩; replace HM := HM.call (pw_below_drewN (Below.refl _ _) nd); clear HF a; intro a HF) | (refine sA HF ?_; clear HF a; intro a HF) | (refine sB HF HM ?_; clear HF a; intro a HF) | (refine aA HF HM ?_; clear HF HM a; intro g a w HF HM) | (refine so HF HM ?_; clear HM; intro w HM) | refine gy HF ?_ | ((first | refine gn HF ?_ | refine gu HF ?_); clear HF a; intro a HF) | refine rn ?_ | refine rg ?_ | refine cF HF ?_))
          exact sk0 (hK _ _ (HF.sub) (HM.sub (by repeat (first | exact List.Sublist.refl _ | exact List.nil_sublist _ | apply List.Sublist.cons_cons | apply List.Sublist.cons)) (by repeat (first | exact List.Sublist.refl _ | exact List.nil_sublist _ | apply List.Sublist.cons_cons | apply List.Sublist.cons))))
      · clear HF HM a; intro a w HF HM
        (repeat (first | (refine cl (f := 28) HF Try.func28 (by kernel_rfl) ?_; (with_reducible refine (drawAdd mks (Kd.C_below hr1 HM.bel) hc1 hy1).mono ?_); rintro e w1 ⟨s4, A10, c10, l4, q0, q1, q2, q3, rfl, hR_, hl4, hb_⟩; refine ⟨_, rfl, ?_⟩; replace HM := HM.row hR_ hb_; clear HF a; intro a HF) | (refine sA HF ?_; clear HF a; intro a HF) | (refine sB HF HM ?_; clear HF a; intro a HF) | (refine aA HF HM ?_; clear HF HM a; intro g a w HF HM) | (refine so HF HM ?_; clear HM; intro w HM) | refine gy HF ?_ | ((first | refine gn HF ?_ | refine gu HF ?_); clear HF a; intro a HF) | refine rn ?_ | refine rg ?_ | refine sk ?_ | refine cF HF ?_ | refine cT HF ?_))
        obtain ⟨k3, s5, l5, four, a1, a2, a3, a4⟩ := hid_g3 s4 l4 q0 q1 q2 q3 hl4
        (repeat (first | (refine cl (f := 29) HF Try.func29 (by kernel_rfl) ?_; (with_reducible refine (impl_AddClue.calls k3 s4 A10 c10 l4 q0 q1 q2 q3 s5 l5 four _ HM.C1 HM.C2 a1).mono ?_); rintro e w1 ⟨v_, rfl, hR_, hb_⟩; obtain ⟨A11, cA11, rfl⟩ := Kd.R_slice hR_; refine ⟨_, rfl, ?_⟩; replace HM := HM.row hR_ hb_; clear HF a; intro a HF) | (refine cl (f := 30) HF Try.func30 (by kernel_rfl) ?_; (with_reducible refine (spec_AddClue.calls k3 s4 A10 c10 l4 q0 q1 q2 q3 s5 l5 four _ HM.C1 HM.C2 a2).mono ?_); rintro e w1 ⟨v_, rfl, hR_, hb_⟩; obtain ⟨A12, cA12, rfl⟩ := Kd.R_slice hR_; refine ⟨_, rfl, ?_⟩; replace HM := HM.row hR_ hb_; clear HF a; intro a HF) | (refine cl (f := 31) HF Try.func31 (by kernel_rfl) ?_; (with_reducible refine (drawDrop mks (Kd.C_below hr1 HM.bel) hc1 hy1).mono ?_); rintro e w1 ⟨s6, A13, c13, l6, n6, rfl, hR_, hl6, hb_⟩; refine ⟨_, rfl, ?_⟩; replace HM := HM.row hR_ hb_; clear HF a; intro a HF) | (refine sA HF ?_; clear HF a; intro a HF) | (refine sB HF HM ?_; clear HF a; intro a HF) | (refine aA HF HM ?_; clear HF HM a; intro g a w HF HM) | (refine so HF HM ?_; clear HM; intro w HM) | refine gy HF ?_ | ((first | refine gn HF ?_ | refine gu HF ?_); clear HF a; intro a HF) | refine rn ?_ | refine rg ?_ | refine sk ?_ | refine cF HF ?_ | refine cT HF ?_))
        obtain ⟨k4, s7, l7, six, b1, b2, b3, b4⟩ := hid_g4 s6 l6 n6 hl6
        (repeat (first | (refine cl (f := 32) HF Try.func32 (by kernel_rfl) ?_; (with_reducible refine (impl_DropClue.calls k4 s6 A13 c13 l6 n6 s7 l7 six _ HM.C1 HM.C2 b1).mono ?_); rintro e w1 ⟨v_, rfl, hR_, hb_⟩; obtain ⟨A14, cA14, rfl⟩ := Kd.R_slice hR_; refine ⟨_, rfl, ?_⟩; replace HM := HM.row hR_ hb_; clear HF a; intro a HF) | (refine cl (f := 33) HF Try.func33 (by kernel_rfl) ?_; (with_reducible refine (spec_DropClue.calls k4 s6 A13 c13 l6 n6 s7 l7 six _ HM.C1 HM.C2 b2).mono ?_); rintro e w1 ⟨v_, rfl, hR_, hb_⟩; obtain ⟨A15, cA15, rfl⟩ := Kd.R_slice hR_; refine ⟨_, rfl, ?_⟩; replace HM := HM.row hR_ hb_; clear HF a; intro a HF) | (refine cl (f := 34) HF Try.func34 (by kernel_rfl) ?_; (with_reducible refine (drawFit pzs (Kd.C_below hr1 HM.bel) hc1 hy1).mono ?_); rintro e w1 ⟨n7, p0, p1, p2, p3, x7, y7, rfl, hb_⟩; refine ⟨_, rfl, ?_⟩; replace HM := HM.call hb_; clear HF a; intro a HF) | (refine sA HF ?_; clear HF a; intro a HF) | (refine sB HF HM ?_; clear HF a; intro a HF) | (refine aA HF HM ?_; clear HF HM a; intro g a w HF HM) | (refine so HF HM ?_; clear HM; intro w HM) | refine gy HF ?_ | ((first | refine gn HF ?_ | refine gu HF ?_); clear HF a; intro a HF) | refine rn ?_ | refine rg ?_ | refine sk ?_ | refine cF HF ?_ | refine cT HF ?_))
        obtain ⟨k5, fits, eight, f1, f2, f3⟩ := hid_g5 n7 p0 p1 p2 p3 x7 y7
        (repeat (first | (refine cl (f := 20) HF Try.func20 (by kernel_rfl) ?_; (with_reducible refine (impl_DoesFit.calls k5 n7 p0 p1 p2 p3 x7 y7 fits eight _ f1).mono ?_); rintro e w1 ⟨rfl, hb_⟩; refine ⟨_, rfl, ?_⟩; replace HM := HM.call hb_; clear HF a; intro a HF) | (refine cl (f := 35) HF Try.func35 (by kernel_rfl) ?_; (with_reducible refine (spec_DoesFit.calls k5 n7 p0 p1 p2 p3 x7 y7 fits eight _ f2).mono ?_); rintro e w1 ⟨rfl, hb_⟩; refine ⟨_, rfl, ?_⟩; replace HM := HM.call hb_; clear HF a; intro a HF) | (refine cl (f := 36) HF Try.func36 (by kernel_rfl) ?_; (with_reducible refine (drawIs (Kd.C_below hr1 HM.bel) hc1 hy1).mono ?_); rintro e w1 ⟨n8, t0, t1, t2, t3, rfl, hb_⟩; refine ⟨_, rfl, ?_⟩; replace HM := HM.call hb_; clear HF a; intro a HF) | (refine sA HF ?_; clear HF a; intro a HF) | (refine sB HF HM ?_; clear HF a; intro a HF) | (refine aA HF HM ?_; clear HF HM a; intro g a w HF HM) | (refine so HF HM ?_; clear HM; intro w HM) | refine gy HF ?_ | ((first | refine gn HF ?_ | refine gu HF ?_); clear HF a; intro a HF) | refine rn ?_ | refine rg ?_ | refine sk ?_ | refine cF HF ?_ | refine cT HF ?_))
        obtain ⟨k6, b6, g1, g2⟩ := hid_g6 n8 t0 t1 t2 t3
        refine cs [46, 45, 43, 44, 33, 32, 30, 31, 39, 37, 36, 38, 42] [1, 2, 4, 5, 7, 8, 9] [1, 2, 4, 5] HF HM (fun K hK => ?_) ?_
        · cases eight
          all_goals
            refine dw (n := 48) (ds := []) law.tab40 law.bits40 HM ?_; clear HM; intro w HM HT HW
            refine pA 0 1 HT rfl HF ?_; clear HF a; intro a HF
            refine pA 1 3 HT rfl HF ?_; clear HF a; intro a HF
            refine pA 2 7 HT rfl HF ?_; clear HF a; intro a HF
            refine pA 3 15 HT rfl HF ?_; clear HF a; intro a HF
            (first | refine pB 4 31 HT rfl HW HF HM ?_ | refine pN 4 31 HT rfl HF ?_); clear HF a; intro a HF
            (first | refine pB 5 63 HT rfl HW HF HM ?_ | refine pN 5 63 HT rfl HF ?_); clear HF a; intro a HF
            refine r1_ 6 127 HT (fun K_ hK_ => ?_); refine kc HF gY Try.func18 (by kernel_rfl) ?_; (with_reducible refine (laws_ePuzzle.calls k3 s5 A11 cA11 l5 s5 A12 cA12 l5 true _ HM.C1 HM.C2 HM.C1 HM.C2 a3).mono ?_); rintro e w1 ⟨rfl, hb_⟩; refine ⟨_, rfl, ?_⟩; clear HF a; intro a HF; refine hK_ _ _ (HM.call hb_) ?_; clear HM hK_ K_; intro HM
            (first | refine pA 7 255 HT rfl HF ?_ | refine pN 7 255 HT rfl HF ?_); clear HF a; intro a HF
            refine pA 8 511 HT rfl HF ?_; clear HF a; intro a HF
            refine pA 9 1023 HT rfl HF ?_; clear HF a; intro a HF
            (first | refine pA 10 2047 HT rfl HF ?_ | refine pN 10 2047 HT rfl HF ?_); clear HF a; intro a HF
            (first | refine pA 11 4095 HT rfl HF ?_ | refine pN 11 4095 HT rfl HF ?_); clear HF a; intro a HF
            (first | refine pA 12 8191 HT rfl HF ?_ | refine pN 12 8191 HT rfl HF ?_); clear HF a; intro a HF
            refine pA 13 16383 HT rfl HF ?_; clear HF a; intro a HF
            refine pA 14 32767 HT rfl HF ?_; clear HF a; intro a HF
            (first | refine pB 15 65535 HT rfl HW HF HM ?_ | refine pN 15 65535 HT rfl HF ?_); clear HF a; intro a HF
            (first | refine pB 16 131071 HT rfl HW HF HM ?_ | refine pN 16 131071 HT rfl HF ?_); clear HF a; intro a HF
            refine r1_ 17 262143 HT (fun K_ hK_ => ?_); refine kc HF gY Try.func18 (by kernel_rfl) ?_; (with_reducible refine (laws_ePuzzle.calls k4 s7 A14 cA14 l7 s7 A15 cA15 l7 true _ HM.C1 HM.C2 HM.C1 HM.C2 b3).mono ?_); rintro e w1 ⟨rfl, hb_⟩; refine ⟨_, rfl, ?_⟩; clear HF a; intro a HF; refine hK_ _ _ (HM.call hb_) ?_; clear HM hK_ K_; intro HM
            (first | refine pA 18 524287 HT rfl HF ?_ | refine pN 18 524287 HT rfl HF ?_); clear HF a; intro a HF
            refine pA 19 1048575 HT rfl HF ?_; clear HF a; intro a HF
            refine pA 20 2097151 HT rfl HF ?_; clear HF a; intro a HF
            (first | refine pA 21 4194303 HT rfl HF ?_ | refine pN 21 4194303 HT rfl HF ?_); clear HF a; intro a HF
            (first | refine pA 22 8388607 HT rfl HF ?_ | refine pN 22 8388607 HT rfl HF ?_); clear HF a; intro a HF
            (first | refine pA 23 16777215 HT rfl HF ?_ | refine pN 23 16777215 HT rfl HF ?_); clear HF a; intro a HF
            refine pA 24 33554431 HT rfl HF ?_; clear HF a; intro a HF
            refine pA 25 67108863 HT rfl HF ?_; clear HF a; intro a HF
            (first | refine pA 26 134217727 HT rfl HF ?_ | refine pN 26 134217727 HT rfl HF ?_); clear HF a; intro a HF
            (first | refine pA 27 268435455 HT rfl HF ?_ | refine pN 27 268435455 HT rfl HF ?_); clear HF a; intro a HF
            (first | refine pA 28 536870911 HT rfl HF ?_ | refine pN 28 536870911 HT rfl HF ?_); clear HF a; intro a HF
            refine pA 29 1073741823 HT rfl HF ?_; clear HF a; intro a HF
            refine pA 30 2147483647 HT rfl HF ?_; clear HF a; intro a HF
            (first | refine pA 31 4294967295 HT rfl HF ?_ | refine pN 31 4294967295 HT rfl HF ?_); clear HF a; intro a HF
            (first | refine pB 32 8589934591 HT rfl HW HF HM ?_ | refine pN 32 8589934591 HT rfl HF ?_); clear HF a; intro a HF
            (first | refine pA 34 25769803775 HT rfl HF ?_ | refine pN 34 25769803775 HT rfl HF ?_); clear HF a; intro a HF
            (first | refine pB 35 60129542143 HT rfl HW HF HM ?_ | refine pN 35 60129542143 HT rfl HF ?_); clear HF a; intro a HF
            refine r1_ 33 68719476735 HT (fun K_ hK_ => ?_); refine kc HF gY Try.func37 (by kernel_rfl) ?_; (with_reducible refine (impl_IsClue.calls k6 n8 t0 t1 t2 t3 b6 _ g1).mono ?_); rintro e w1 ⟨rfl, hb_⟩; refine ⟨_, rfl, ?_⟩; clear HF a; intro a HF; refine hK_ _ _ (HM.call hb_) ?_; clear HM hK_ K_; intro HM
            refine r1_ 36 137438953471 HT (fun K_ hK_ => ?_); refine kc HF gY Try.func38 (by kernel_rfl) ?_; (with_reducible refine (spec_IsClue.calls k6 n8 t0 t1 t2 t3 b6 _ g2).mono ?_); rintro e w1 ⟨rfl, hb_⟩; refine ⟨_, rfl, ?_⟩; clear HF a; intro a HF; refine hK_ _ _ (HM.call hb_) ?_; clear HM hK_ K_; intro HM
            (first | refine pA 37 274877906943 HT rfl HF ?_ | refine pN 37 274877906943 HT rfl HF ?_); clear HF a; intro a HF
            refine pA 38 549755813887 HT rfl HF ?_; clear HF a; intro a HF
            refine pA 39 1099511627775 HT rfl HF ?_; clear HF a; intro a HF
            (first | refine pA 40 2199023255551 HT rfl HF ?_ | refine pN 40 2199023255551 HT rfl HF ?_); clear HF a; intro a HF
            (first | refine pA 41 4398046511103 HT rfl HF ?_ | refine pN 41 4398046511103 HT rfl HF ?_); clear HF a; intro a HF
            (first | refine pA 42 8796093022207 HT rfl HF ?_ | refine pN 42 8796093022207 HT rfl HF ?_); clear HF a; intro a HF
            (first | refine pB 43 17592186044415 HT rfl HW HF HM ?_ | refine pN 43 17592186044415 HT rfl HF ?_); clear HF a; intro a HF
            first | (refine r1_ 44 35184372088831 HT (fun K_ hK_ => ?_); refine kc HF gY Try.func37 (by kernel_rfl) ?_; (with_reducible refine (impl_IsClue.calls k5 n7 p0 p1 p2 p3 true _ (f3 rfl).1).mono ?_); rintro e w1 ⟨rfl, hb_⟩; refine ⟨_, rfl, ?_⟩; clear HF a; intro a HF; refine hK_ _ _ (HM.call hb_) ?_; clear HM hK_ K_; intro HM) | (refine pN 44 35184372088831 HT rfl HF ?_; clear HF a; intro a HF)
            (first | refine pA 45 70368744177663 HT rfl HF ?_ | refine pN 45 70368744177663 HT rfl HF ?_); clear HF a; intro a HF
            (first | refine pA 46 140737488355327 HT rfl HF ?_ | refine pN 46 140737488355327 HT rfl HF ?_); clear HF a; intro a HF
            refine pA 47 281474976710655 HT rfl HF ?_; clear HF a; intro a HF
            refine dc HT ?_
            refine cF HF ?_
            exact sk0 (hK _ _ (HF.sub) (HM.sub (by repeat (first | exact List.Sublist.refl _ | exact List.nil_sublist _ | apply List.Sublist.cons_cons | apply List.Sublist.cons)) (by repeat (first | exact List.Sublist.refl _ | exact List.nil_sublist _ | apply List.Sublist.cons_cons | apply List.Sublist.cons))))
        · clear HF HM a; intro a w HF HM; clear f1 f2 g1 g2 a1 a2 b1 b2
          refine cs [33, 32, 30, 31, 39, 37, 36, 38] [2, 3, 4, 5, 6] [0, 1, 2, 3] HF HM (fun K hK => ?_) ?_
          · cases eight with
            | false =>
              (repeat (first | refine rg ?_ | (refine sA HF ?_; clear HF a; intro a HF) | (refine sB HF HM ?_; clear HF a; intro a HF) | (refine aA HF HM ?_; clear HF HM a; intro g a w HF HM) | (refine so HF HM ?_; clear HM; intro w HM) | refine gy HF ?_ | ((first | refine gn HF ?_ | refine gu HF ?_); clear HF a; intro a HF) | refine rn ?_))
              refine cF HF ?_; exact sk0 (hK _ _ (HF.sub) (HM.sub (by repeat (first | exact List.Sublist.refl _ | exact List.nil_sublist _ | apply List.Sublist.cons_cons | apply List.Sublist.cons)) (by repeat (first | exact List.Sublist.refl _ | exact List.nil_sublist _ | apply List.Sublist.cons_cons | apply List.Sublist.cons))))
            | true =>
              obtain ⟨_, f4⟩ := f3 rfl
              by_cases h5 : p0 = 5 <;> by_cases hx : p1 = x7 <;> by_cases hy : p2 = y7
              all_goals
                (repeat (first | refine rg ?_ | (refine sA HF ?_; clear HF a; intro a HF) | (refine sB HF HM ?_; clear HF a; intro a HF) | (refine aA HF HM ?_; clear HF HM a; intro g a w HF HM) | (refine so HF HM ?_; clear HM; intro w HM) | refine gy HF ?_ | ((first | refine gn HF ?_ | refine gu HF ?_); clear HF a; intro a HF) | refine rn ?_))
                try (refine cF HF ?_; exact sk0 (hK _ _ (HF.sub) (HM.sub (by repeat (first | exact List.Sublist.refl _ | exact List.nil_sublist _ | apply List.Sublist.cons_cons | apply List.Sublist.cons)) (by repeat (first | exact List.Sublist.refl _ | exact List.nil_sublist _ | apply List.Sublist.cons_cons | apply List.Sublist.cons)))))
              all_goals
                (refine cT HF ?_; obtain ⟨pg, u1, u2⟩ := f4 h5 (by omega); subst u2; (repeat (first | (refine cl (f := 39) HF Try.func39 (by kernel_rfl) ?_; (with_reducible refine (impl_PegsOnLine.calls k5 p1 p2 x7 y7 pg true _ u1).mono ?_); rintro e w1 ⟨rfl, hb_⟩; refine ⟨_, rfl, ?_⟩; replace HM := HM.call hb_; clear HF a; intro a HF) | (refine sA HF ?_; clear HF a; intro a HF) | (refine sB HF HM ?_; clear HF a; intro a HF) | (refine aA HF HM ?_; clear HF HM a; intro g a w HF HM) | (refine so HF HM ?_; clear HM; intro w HM) | refine gy HF ?_ | ((first | refine gn HF ?_ | refine gu HF ?_); clear HF a; intro a HF) | refine rn ?_ | refine rg ?_)); refine cF HF ?_; exact sk0 (hK _ _ (HF.sub) (HM.sub (by repeat (first | exact List.Sublist.refl _ | exact List.nil_sublist _ | apply List.Sublist.cons_cons | apply List.Sublist.cons)) (by repeat (first | exact List.Sublist.refl _ | exact List.nil_sublist _ | apply List.Sublist.cons_cons | apply List.Sublist.cons)))))
          · clear HF HM a; intro a w HF HM
            refine cs [39, 37, 36, 38] [0, 1] [0, 1] HF HM (fun K hK => ?_) ?_
            · refine rg ?_
              (repeat (first | (refine sA HF ?_; clear HF a; intro a HF) | (refine sB HF HM ?_; clear HF a; intro a HF) | (refine aA HF HM ?_; clear HF HM a; intro g a w HF HM) | (refine so HF HM ?_; clear HM; intro w HM) | refine gy HF ?_ | ((first | refine gn HF ?_ | refine gu HF ?_); clear HF a; intro a HF)))
              refine rn ?_
              cases four with
              | false => refine cF HF ?_; exact sk0 (hK _ _ (HF.sub) (HM.sub (by repeat (first | exact List.Sublist.refl _ | exact List.nil_sublist _ | apply List.Sublist.cons_cons | apply List.Sublist.cons)) (by repeat (first | exact List.Sublist.refl _ | exact List.nil_sublist _ | apply List.Sublist.cons_cons | apply List.Sublist.cons))))
              | true =>
                obtain ⟨s8, l8, u1, u2, u3, u4⟩ := a4 rfl
                obtain ⟨v0, v1, v2, v3⟩ : q0 = (rd_impl_Clue l5 (l4.length : Int)).f0 ∧ q1 = (rd_impl_Clue l5 (l4.length : Int)).f1 ∧ q2 = (rd_impl_Clue l5 (l4.length : Int)).f2 ∧ q3 = (rd_impl_Clue l5 (l4.length : Int)).f3 := by rw [u4]; exact ⟨rfl, rfl, rfl, rfl⟩
                clear u4; subst v0 v1 v2 v3
                obtain ⟨ad, rfl⟩ := clue_at (HM.C1 : Kd.C kd_impl_Clue w A11 l5.length l5) (l4.length : Int) (by omega) (by omega)
                refine cT HF ?_
                (repeat (first | (refine cl (f := 32) HF Try.func32 (by kernel_rfl) ?_; (with_reducible refine (impl_DropClue.calls k3 s5 (some ad) cA11 l5 (l4.length : Int) s8 l8 true _ HM.C1 HM.C2 u1).mono ?_); rintro e w1 ⟨v_, rfl, hR_, hb_⟩; obtain ⟨A16, cA16, rfl⟩ := Kd.R_slice hR_; refine ⟨_, rfl, ?_⟩; replace HM := HM.row hR_ hb_; clear HF a; intro a HF) | (refine sA HF ?_; clear HF a; intro a HF) | (refine sB HF HM ?_; clear HF a; intro a HF) | (refine aA HF HM ?_; clear HF HM a; intro g a w HF HM) | (refine so HF HM ?_; clear HM; intro w HM) | refine gy HF ?_ | ((first | refine gn HF ?_ | refine gu HF ?_); clear HF a; intro a HF) | refine rn ?_ | refine rg ?_))
                refine dw (n := 19) (ds := []) law.tab48 law.bits48 HM ?_; clear HM; intro w HM HT HW
                refine pA 0 1 HT rfl HF ?_; clear HF a; intro a HF
                refine pA 1 3 HT rfl HF ?_; clear HF a; intro a HF
                refine pA 2 7 HT rfl HF ?_; clear HF a; intro a HF
                (first | refine pB 3 15 HT rfl HW HF HM ?_ | refine pN 3 15 HT rfl HF ?_); clear HF a; intro a HF
                (first | refine pB 4 31 HT rfl HW HF HM ?_ | refine pN 4 31 HT rfl HF ?_); clear HF a; intro a HF
                refine r1_ 5 63 HT (fun K_ hK_ => ?_); refine kc HF gY Try.func18 (by kernel_rfl) ?_; (with_reducible refine (laws_ePuzzle.calls k3 s8 A16 cA16 l8 s4 A10 c10 l4 true _ HM.C1 HM.C2 HM.C1 HM.C2 u2).mono ?_); rintro e w1 ⟨rfl, hb_⟩; refine ⟨_, rfl, ?_⟩; clear HF a; intro a HF; refine hK_ _ _ (HM.call hb_) ?_; clear HM hK_ K_; intro HM
                (first | refine pA 6 127 HT rfl HF ?_ | refine pN 6 127 HT rfl HF ?_); clear HF a; intro a HF
                refine pA 7 255 HT rfl HF ?_; clear HF a; intro a HF
                refine pA 8 511 HT rfl HF ?_; clear HF a; intro a HF
                (first | refine pA 9 1023 HT rfl HF ?_ | refine pN 9 1023 HT rfl HF ?_); clear HF a; intro a HF
                (first | refine pB 10 2047 HT rfl HW HF HM ?_ | refine pN 10 2047 HT rfl HF ?_); clear HF a; intro a HF
                (first | refine pA 11 4095 HT rfl HF ?_ | refine pN 11 4095 HT rfl HF ?_); clear HF a; intro a HF
                (first | refine pB 12 8191 HT rfl HW HF HM ?_ | refine pN 12 8191 HT rfl HF ?_); clear HF a; intro a HF
                (first | refine pA 13 16383 HT rfl HF ?_ | refine pN 13 16383 HT rfl HF ?_); clear HF a; intro a HF
                (first | refine pA 14 32767 HT rfl HF ?_ | refine pN 14 32767 HT rfl HF ?_); clear HF a; intro a HF
                (first | refine pB 15 65535 HT rfl HW HF HM ?_ | refine pN 15 65535 HT rfl HF ?_); clear HF a; intro a HF
                (first | refine pB 16 131071 HT rfl HW HF HM ?_ | refine pN 16 131071 HT rfl HF ?_); clear HF a; intro a HF
                (first | refine pA 17 262143 HT rfl HF ?_ | refine pN 17 262143 HT rfl HF ?_); clear HF a; intro a HF
                refine pA 18 524287 HT rfl HF ?_; clear HF a; intro a HF
                refine dc HT ?_
                refine cF HF ?_
                exact sk0 (hK _ _ (HF.sub) (HM.sub (by repeat (first | exact List.Sublist.refl _ | exact List.nil_sublist _ | apply List.Sublist.cons_cons | apply List.Sublist.cons)) (by repeat (first | exact List.Sublist.refl _ | exact List.nil_sublist _ | apply List.Sublist.cons_cons | apply List.Sublist.cons))))
            · clear HF HM a; intro a w HF HM; refine sq (rg ?_)
              cases six with
              | false =>
                (repeat (first | (refine sA HF ?_; clear HF a; intro a HF) | (refine sB HF HM ?_; clear HF a; intro a HF) | (refine aA HF HM ?_; clear HF HM a; intro g a w HF HM) | (refine so HF HM ?_; clear HM; intro w HM) | refine gy HF ?_ | ((first | refine gn HF ?_ | refine gu HF ?_); clear HF a; intro a HF) | refine rn ?_)); refine cF HF (sk ?_); (repeat (first | (refine sA HF ?_; clear HF a; intro a HF) | (refine sB HF HM ?_; clear HF a; intro a HF) | (refine aA HF HM ?_; clear HF HM a; intro g a w HF HM) | (refine so HF HM ?_; clear HM; intro w HM) | refine gy HF ?_ | ((first | refine gn HF ?_ | refine gu HF ?_); clear HF a; intro a HF) | refine rn ?_ | refine rg ?_)); refine rt ?_; (repeat refine tr ?_); exact rt1 HF rfl rfl ⟨rfl, HM.bel⟩
              | true =>
                by_cases hn : n6 = (l6.length : Int) - 1
                · obtain ⟨z0, z1, s9, l9, z2, z3⟩ := b4 rfl hn
                  (repeat (first | (refine sA HF ?_; clear HF a; intro a HF) | (refine sB HF HM ?_; clear HF a; intro a HF) | (refine aA HF HM ?_; clear HF HM a; intro g a w HF HM) | (refine so HF HM ?_; clear HM; intro w HM) | refine gy HF ?_ | ((first | refine gn HF ?_ | refine gu HF ?_); clear HF a; intro a HF) | refine rn ?_))
                  refine cT HF ?_
                  obtain ⟨ad, rfl⟩ := clue_at (HM.C1 : Kd.C kd_impl_Clue w A13 l6.length l6) n6 z0 z1
                  refine dw (n := 13) (ds := []) law.tab51 law.bits51 HM ?_; clear HM; intro w HM HT HW
                  refine pB 0 1 HT rfl HW HF HM ?_; clear HF a; intro a HF
                  refine pA 1 3 HT rfl HF ?_; clear HF a; intro a HF
                  refine pB 2 7 HT rfl HW HF HM ?_; clear HF a; intro a HF
                  refine pA 3 15 HT rfl HF ?_; clear HF a; intro a HF
                  refine pA 4 31 HT rfl HF ?_; clear HF a; intro a HF
                  refine pB 5 63 HT rfl HW HF HM ?_; clear HF a; intro a HF
                  refine r2_ 6 10 127 1087 HT (fun K_ hK_ => ?_) (fun K_ hK_ => ?_)
                  · refine kc HF g0 Try.func29 (by kernel_rfl) ?_; (with_reducible refine (impl_AddClue.calls k4 s7 A14 cA14 l7 _ _ _ _ s9 l9 true _ HM.C1 HM.C2 z2).mono ?_); rintro e w1 ⟨v_, rfl, hR_, hb_⟩; obtain ⟨A17, cA17, rfl⟩ := Kd.R_slice hR_; refine ⟨_, rfl, ?_⟩; replace HM := HM.row hR_ hb_; clear HF a; intro a HF; refine hK_ _ _ (HM.sub (by repeat (first | exact List.Sublist.refl _ | exact List.nil_sublist _ | apply List.Sublist.cons_cons | apply List.Sublist.cons)) (by repeat (first | exact List.Sublist.refl _ | exact List.nil_sublist _ | apply List.Sublist.cons_cons | apply List.Sublist.cons))) ?_; clear hK_ K_; intro _
                    refine pA 7 255 HT rfl HF ?_; clear HF a; intro a HF
                    refine pA 8 511 HT rfl HF ?_; clear HF a; intro a HF
                    refine pA 9 1023 HT rfl HF ?_; clear HF a; intro a HF
                    refine r1_ 10 2047 HT (fun K_ hK_ => ?_); refine ka az31 HF HM ?_; clear HM HF a; intro g a w HF HM; refine hK_ _ _ (HM.sub (by repeat (first | exact List.Sublist.refl _ | exact List.nil_sublist _ | apply List.Sublist.cons_cons | apply List.Sublist.cons)) (by repeat (first | exact List.Sublist.refl _ | exact List.nil_sublist _ | apply List.Sublist.cons_cons | apply List.Sublist.cons))) ?_; clear hK_ K_; intro _
                    have TAG := True.intro
                    refine r1_ 11 4095 HT (fun K_ hK_ => ?_)
                    refine ks HF HM ?_; clear HM; intro w HM; refine hK_ _ _ (HM.sub (by repeat (first | exact List.Sublist.refl _ | exact List.nil_sublist _ | apply List.Sublist.cons_cons | apply List.Sublist.cons)) (by repeat (first | exact List.Sublist.refl _ | exact List.nil_sublist _ | apply List.Sublist.cons_cons | apply List.Sublist.cons))) ?_; clear hK_ K_; intro _
                    refine pA 12 8191 HT rfl HF ?_; clear HF a; intro a HF
                    refine dc HT ?_
                    (repeat (first | (refine cl (f := 18) HF Try.func18 (by kernel_rfl) ?_; (with_reducible refine (laws_ePuzzle.calls k4 s9 A17 cA17 l9 s6 (some ad) c13 l6 true _ HM.C1 HM.C2 HM.C1 HM.C2 z3).mono ?_); rintro e w1 ⟨rfl, hb_⟩; refine ⟨_, rfl, ?_⟩; replace HM := HM.call hb_; clear HF a; intro a HF) | (refine sA HF ?_; clear HF a; intro a HF) | (refine sB HF HM ?_; clear HF a; intro a HF) | (refine aA HF HM ?_; clear HF HM a; intro g a w HF HM) | (refine so HF HM ?_; clear HM; intro w HM) | refine gy HF ?_ | ((first | refine gn HF ?_ | refine gu HF ?_); clear HF a; intro a HF) | refine rn ?_ | refine rg ?_))
                    refine rt ?_; (repeat refine tr ?_); exact rt1 HF rfl rfl ⟨rfl, HM.bel⟩
                  · refine ka az31 HF HM ?_; clear HM HF a; intro g a w HF HM; refine hK_ _ _ (HM.sub (by repeat (first | exact List.Sublist.refl _ | exact List.nil_sublist _ | apply List.Sublist.cons_cons | apply List.Sublist.cons)) (by repeat (first | exact List.Sublist.refl _ | exact List.nil_sublist _ | apply List.Sublist.cons_cons | apply List.Sublist.cons))) ?_; clear hK_ K_; intro _
                    refine r1_ 6 1151 HT (fun K_ hK_ => ?_); refine kc HF g0 Try.func29 (by kernel_rfl) ?_; (with_reducible refine (impl_AddClue.calls k4 s7 A14 cA14 l7 _ _ _ _ s9 l9 true _ HM.C1 HM.C2 z2).mono ?_); rintro e w1 ⟨v_, rfl, hR_, hb_⟩; obtain ⟨A17, cA17, rfl⟩ := Kd.R_slice hR_; refine ⟨_, rfl, ?_⟩; replace HM := HM.row hR_ hb_; clear HF a; intro a HF; refine hK_ _ _ (HM.sub (by repeat (first | exact List.Sublist.refl _ | exact List.nil_sublist _ | apply List.Sublist.cons_cons | apply List.Sublist.cons)) (by repeat (first | exact List.Sublist.refl _ | exact List.nil_sublist _ | apply List.Sublist.cons_cons | apply List.Sublist.cons))) ?_; clear hK_ K_; intro _
                    refine pA 7 1279 HT rfl HF ?_; clear HF a; intro a HF
                    refine pA 8 1535 HT rfl HF ?_; clear HF a; intro a HF
                    refine pA 9 2047 HT rfl HF ?_; clear HF a; intro a HF
                    refine r1_ 11 4095 HT (fun K_ hK_ => ?_)
                    refine ks HF HM ?_; clear HM; intro w HM; refine hK_ _ _ (HM.sub (by repeat (first | exact List.Sublist.refl _ | exact List.nil_sublist _ | apply List.Sublist.cons_cons | apply List.Sublist.cons)) (by repeat (first | exact List.Sublist.refl _ | exact List.nil_sublist _ | apply List.Sublist.cons_cons | apply List.Sublist.cons))) ?_; clear hK_ K_; intro _
                    refine pA 12 8191 HT rfl HF ?_; clear HF a; intro a HF
                    refine dc HT ?_
                    (repeat (first | (refine cl (f := 18) HF Try.func18 (by kernel_rfl) ?_; (with_reducible refine (laws_ePuzzle.calls k4 s9 A17 cA17 l9 s6 (some ad) c13 l6 true _ HM.C1 HM.C2 HM.C1 HM.C2 z3).mono ?_); rintro e w1 ⟨rfl, hb_⟩; refine ⟨_, rfl, ?_⟩; replace HM := HM.call hb_; clear HF a; intro a HF) | (refine sA HF ?_; clear HF a; intro a HF) | (refine sB HF HM ?_; clear HF a; intro a HF) | (refine aA HF HM ?_; clear HF HM a; intro g a w HF HM) | (refine so HF HM ?_; clear HM; intro w HM) | refine gy HF ?_ | ((first | refine gn HF ?_ | refine gu HF ?_); clear HF a; intro a HF) | refine rn ?_ | refine rg ?_))
                    refine rt ?_; (repeat refine tr ?_); exact rt1 HF rfl rfl ⟨rfl, HM.bel⟩
                · (repeat (first | (refine sA HF ?_; clear HF a; intro a HF) | (refine sB HF HM ?_; clear HF a; intro a HF) | (refine aA HF HM ?_; clear HF HM a; intro g a w HF HM) | (refine so HF HM ?_; clear HM; intro w HM) | refine gy HF ?_ | ((first | refine gn HF ?_ | refine gu HF ?_); clear HF a; intro a HF) | refine rn ?_)); refine cF HF (sk ?_); (repeat (first | (refine sA HF ?_; clear HF a; intro a HF) | (refine sB HF HM ?_; clear HF a; intro a HF) | (refine aA HF HM ?_; clear HF HM a; intro g a w HF HM) | (refine so HF HM ?_; clear HM; intro w HM) | refine gy HF ?_ | ((first | refine gn HF ?_ | refine gu HF ?_); clear HF a; intro a HF) | refine rn ?_ | refine rg ?_)); refine rt ?_; (repeat refine tr ?_); exact rt1 HF rfl rfl ⟨rfl, HM.bel⟩
set_option maxHeartbeats 8000000 in
set_option maxRecDepth 100000 in
theorem walkBig (A0 : Option Addr) (c0 : Nat) (l0 : List Int) (A1 : Option Addr) (c1 : Nat) (l1 : List Int) (w0 : World) (hr0 : Kd.C (Kd.int .u8) w0 A0 l0.length l0) (hc0 : l0.length ≤ c0) (hr1 : Kd.C (Kd.int .u8) w0 A1 l1.length l1) (hc1 : l1.length ≤ c1) (hb : laws_big.f l0 l1 = some true) :
    Calls Try.prog 4 #[.slice A0 l0.length c0, .slice A1 l1.length c1] w0 fun e w' => e = .returned (.bool true) ∧ Below w0.heap.size w0 w' := by
  refine Ex.start (N := 412) [.slice A0 l0.length c0, .slice A1 l1.length c1] Try.func4 rfl (by kernel_rfl) (by simp) fun a HF => ?_
  have HM := Me.start w0
  (repeat (first | (refine sA HF ?_; clear HF a; intro a HF) | (refine sB HF HM ?_; clear HF a; intro a HF) | (refine aA HF HM ?_; clear HF HM a; intro g a w HF HM) | (refine so HF HM ?_; clear HM; intro w HM) | refine gy HF ?_ | ((first | refine gn HF ?_ | refine gu HF ?_); clear HF a; intro a HF) | refine rn ?_ | refine rg ?_ | refine sk ?_ | refine cF HF ?_ | refine cT HF ?_))
  refine sq ?_
  (repeat (first | (refine cl (f := 14) HF Try.func14 (by kernel_rfl) ?_; (with_reducible refine (laws_big.calls A0 c0 l0 A1 c1 l1 true _ (Kd.C_below hr0 HM.bel) hc0 (Kd.C_below hr1 HM.bel) hc1 hb).mono ?_); rintro e w1 ⟨rfl, ⟨nd, rfl⟩⟩; refine ⟨_, rfl, ?_⟩; replace HM := HM.call (pw_below_drewN (Below.refl _ _) nd); clear HF a; intro a HF) | (refine sA HF ?_; clear HF a; intro a HF) | (refine sB HF HM ?_; clear HF a; intro a HF) | (refine aA HF HM ?_; clear HF HM a; intro g a w HF HM) | (refine so HF HM ?_; clear HM; intro w HM) | refine gy HF ?_ | ((first | refine gn HF ?_ | refine gu HF ?_); clear HF a; intro a HF) | refine rn ?_ | refine rg ?_ | refine sk ?_ | refine cF HF ?_ | refine cT HF ?_))
  refine rt ?_
  (repeat (first | refine tr ?_ | refine tb ?_))
  exact rt1 HF rfl rfl ⟨rfl, HM.bel⟩
/-- The law answers true. -/
theorem lawCalls (A0 : Option Addr) (c0 : Nat) (l0 : List Int) (A1 : Option Addr) (c1 : Nat) (l1 : List Int) (w0 : World) (hr0 : Kd.C (Kd.int .u8) w0 A0 l0.length l0) (hc0 : l0.length ≤ c0) (hr1 : Kd.C (Kd.int .u8) w0 A1 l1.length l1) (hc1 : l1.length ≤ c1) (hy0 : ∀ x ∈ l0, 0 ≤ x ∧ x < 256) (hy1 : ∀ x ∈ l1, 0 ≤ x ∧ x < 256) :
    Calls Try.prog 4 #[.slice A0 l0.length c0, .slice A1 l1.length c1] w0 fun e w' => e = .returned (.bool true) ∧ Below w0.heap.size w0 w' := by
  obtain ⟨b, hb⟩ : ∃ b, laws_big.f l0 l1 = some b := by
    unfold laws_big.f
    split <;> exact ⟨_, rfl⟩
  cases b with
  | true => exact walkBig A0 c0 l0 A1 c1 l1 w0 hr0 hc0 hr1 hc1 hb
  | false => exact walk A0 c0 l0 A1 c1 l1 w0 hr0 hc0 hr1 hc1 hb hy0 hy1
end Go.Proofs.Ytoeclfihlhmnpaa.Hd
