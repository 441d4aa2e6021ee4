import Derived.Test.YtoeclfihlhmnpaaXD
import Derived.Test.YtoeclfihlhmnpaaXM1
import Derived.Test.YtoeclfihlhmnpaaX3
import Derived.Test.YtoeclfihlhmnpaaX4
import Derived.Test.YtoeclfihlhmnpaaBHid
namespace Go.Proofs.Ytoeclfihlhmnpaa.Hd
open Go Go.RowKit Go.Proofs.Ytoeclfihlhmnpaa.XW Go.Proofs.YtoeclfihlhmnpaaW.PrintWords Go.Proofs.YtoeclfihlhmnpaaW.PrintLast Go.Proofs.Ytoeclfihlhmnpaa.X Go.Proofs.Ytoeclfihlhmnpaa.Ex
set_option linter.unusedVariables false
set_option linter.unusedSimpArgs false
open Go.Proofs.Ytoeclfihlhmnpaa.B (nxt nxt_bd kd_bd next_eq mkL mkL_length mkA cfv sd onb tests Sm ev_pzOf ev_asHas sd_iff onb_iff pzSide_eq pzOn_eq spec_in_eq impl_within_eq isHidden_eq hid_g1 hid_g2 hid_g3 hid_g4 hid_g5 hid_g6)
theorem pzs : PZS := ⟨fun kind x y px py w h1 h2 h3 h4 h5 => by
  obtain ⟨j, hj⟩ := (ev_pzOf (p := ⟨px, py⟩) ⟨by show _ ≤ px; omega, by show px ≤ _; omega, by show _ ≤ py; omega, by show py ≤ _; omega⟩ kind x y ⟨by show _ ≤ x; omega, by show x ≤ _; omega, by show _ ≤ y; omega, by show y ≤ _; omega⟩).rounds
  exact (spec_pzOf.calls j kind x y px py _ _ _ _ w hj).mono fun e w' h => ⟨_, _, _, _, h.1, h.2⟩⟩
theorem sm_of {n : Int} (h : n ≤ 12) {x y : Int} (hx : 0 ≤ x ∧ x ≤ n) (hy : 0 ≤ y ∧ y ≤ n) : Sm 1000 ⟨x, y⟩ := ⟨by show _ ≤ x; omega, by show x ≤ _; omega, by show _ ≤ y; omega, by show y ≤ _; omega⟩
theorem cfs {side px py : Int} (h1 : sd side = true) (h2 : onb side ⟨px, py⟩ = true) : CFS (cfv ⟨px, py⟩) px py := ⟨fun k x y w hk hz hx hy => by
  have hs := sd_iff.1 h1
  have ho := onb_iff.1 h2
  obtain ⟨j, hj⟩ := (ev_pzOf (p := ⟨px, py⟩) (sm_of hs.2 ho.1 ho.2) k x y (sm_of (Int.le_refl 12) hx hy)).rounds
  exact spec_pzOf.calls j k x y px py _ _ _ _ w hj⟩
theorem cfi {side px py : Int} (h1 : sd side = true) (h2 : onb side ⟨px, py⟩ = true) : CFI (cfv ⟨px, py⟩) px py := ⟨fun k x y w hk hz hx hy => by
  have hs := sd_iff.1 h1
  have ho := onb_iff.1 h2
  obtain ⟨j, hj⟩ := (ev_asHas (p := ⟨px, py⟩) (sm_of hs.2 ho.1 ho.2) k x y (sm_of (Int.le_refl 12) hx hy) hk hz).rounds
  exact impl_asHas.calls j k x y 0 px py _ _ _ _ w hj⟩
theorem mk_b (side px py n z : Int) : sd side = true → onb side ⟨px, py⟩ = true → (decide (0 ≤ n) && decide (n ≤ 6)) = true → (decide (0 ≤ z) && decide (z ≤ 9999)) = true → (1 ≤ side ∧ side ≤ 12) ∧ (0 ≤ n ∧ n ≤ 6) ∧ (0 ≤ z ∧ z ≤ 9999) := by
  intro h1 h2 h3 h4
  rw [Bool.and_eq_true, decide_eq_true_eq, decide_eq_true_eq] at h3 h4
  exact ⟨sd_iff.1 h1, h3, h4⟩
theorem make17 (side px py n z : Int) (w : World) : Calls Try.prog 17 #[.int .i64 side, .agg #[.int .i64 px, .int .i64 py], .int .i64 n, .int .i64 z] w fun e w' => ∃ (A : Option Addr) (c : Nat), e = .returned (.tuple #[.agg #[.int .i64 (mkA (cfv ⟨px, py⟩) side n z (tests side n z ⟨px, py⟩)).1, .slice A (mkA (cfv ⟨px, py⟩) side n z (tests side n z ⟨px, py⟩)).2.1.length c], .bool (mkA (cfv ⟨px, py⟩) side n z (tests side n z ⟨px, py⟩)).2.2]) ∧ Kd.R kd_impl_Clue 48 w' w.heap.size (fun _ => True) (.slice A (mkA (cfv ⟨px, py⟩) side n z (tests side n z ⟨px, py⟩)).2.1.length c) (mkA (cfv ⟨px, py⟩) side n z (tests side n z ⟨px, py⟩)).2.1 ∧ Below w.heap.size w w' := by
  exact mkSpec (cfv ⟨px, py⟩) side px py n z _ _ _ _ (pzSide_eq side) (pzOn_eq side ⟨px, py⟩) (spec_in_eq n 0 6) (spec_in_eq z 0 9999) (fun h1 h2 => cfs h1 h2) (mk_b side px py n z) w
theorem make16 (side px py n z : Int) (w : World) : Calls Try.prog 16 #[.int .i64 side, .agg #[.int .i64 px, .int .i64 py], .int .i64 n, .int .i64 z] w fun e w' => ∃ (A : Option Addr) (c : Nat), e = .returned (.tuple #[.agg #[.int .i64 (mkA (cfv ⟨px, py⟩) side n z (tests side n z ⟨px, py⟩)).1, .slice A (mkA (cfv ⟨px, py⟩) side n z (tests side n z ⟨px, py⟩)).2.1.length c], .bool (mkA (cfv ⟨px, py⟩) side n z (tests side n z ⟨px, py⟩)).2.2]) ∧ Kd.R kd_impl_Clue 48 w' w.heap.size (fun _ => True) (.slice A (mkA (cfv ⟨px, py⟩) side n z (tests side n z ⟨px, py⟩)).2.1.length c) (mkA (cfv ⟨px, py⟩) side n z (tests side n z ⟨px, py⟩)).2.1 ∧ Below w.heap.size w w' := by
  have h := mkImpl (cfv ⟨px, py⟩) side px py n z _ true _ _ (isHidden_eq side ⟨px, py⟩) (impl_within_eq n 0 6) (impl_within_eq z 0 9999) rfl (fun h => by rw [Bool.and_eq_true] at h; exact cfi h.1 h.2) (fun h1 _ h3 h4 => by rw [Bool.and_eq_true] at h1; exact mk_b side px py n z h1.1 h1.2 h3 h4) w
  rwa [Bool.true_and, Bool.and_assoc] at h
theorem make (side px py n z : Int) : ∃ (s : Int) (l : List S_impl_Clue) (ok : Bool), (∀ w, Calls Try.prog 16 #[.int .i64 side, .agg #[.int .i64 px, .int .i64 py], .int .i64 n, .int .i64 z] w fun e w' => ∃ v1_ : Value, e = .returned (.tuple #[.agg #[.int .i64 s, v1_], .bool ok]) ∧ Kd.R kd_impl_Clue 48 w' w.heap.size (fun _ => True) v1_ l ∧ Below w.heap.size w w') ∧ (∀ w, Calls Try.prog 17 #[.int .i64 side, .agg #[.int .i64 px, .int .i64 py], .int .i64 n, .int .i64 z] w fun e w' => ∃ v1_ : Value, e = .returned (.tuple #[.agg #[.int .i64 s, v1_], .bool ok]) ∧ Kd.R kd_impl_Clue 48 w' w.heap.size (fun _ => True) v1_ l ∧ Below w.heap.size w w') ∧ ∃ k, laws_ePuzzle.f k s l s l = some true ∧ (ok = true → impl_IsPuzzle.f k s l = some true ∧ n = (l.length : Int) ∧ side = s ∧ ∀ c ∈ l, impl_DoesFit.f k s c.f0 c.f1 c.f2 c.f3 px py = some (true, true)) :=
  ⟨_, _, _, fun w => (make16 side px py n z w).mono fun e w' ⟨A, c, h1, h2, h3⟩ => ⟨_, h1, h2, h3⟩, fun w => (make17 side px py n z w).mono fun e w' ⟨A, c, h1, h2, h3⟩ => ⟨_, h1, h2, h3⟩, hid_g1 side px py n z⟩
theorem mks : MKS := ⟨fun side x y n z w => (make17 side x y n z w).mono fun e w' ⟨A, c, h1, h2, h3⟩ => ⟨_, _, _, A, c, h1, h2, by
  unfold mkA tests
  split
  · rename_i h
    rw [Bool.and_eq_true, Bool.and_eq_true, Bool.and_eq_true] at h
    have := (mk_b side x y n z h.1 h.2.1 h.2.2.1 h.2.2.2).2.1
    show (mkL (cfv ⟨x, y⟩) side n.toNat z).length ≤ 6
    rw [mkL_length]
    omega
  · exact Nat.zero_le _, h3⟩⟩
end Go.Proofs.Ytoeclfihlhmnpaa.Hd
