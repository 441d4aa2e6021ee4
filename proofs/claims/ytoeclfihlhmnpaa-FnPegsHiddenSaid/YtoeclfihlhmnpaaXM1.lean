import Derived.Test.YtoeclfihlhmnpaaXF
import Derived.Test.YtoeclfihlhmnpaaBHid
import Derived.Test.YtoeclfihlhmnpaaX3
import Derived.Test.YtoeclfihlhmnpaaX4
namespace Go.Proofs.Ytoeclfihlhmnpaa.Hd
open Go Go.RowKit Go.Proofs.Ytoeclfihlhmnpaa.XW Go.Proofs.YtoeclfihlhmnpaaW.PrintWords Go.Proofs.YtoeclfihlhmnpaaW.PrintLast Go.Proofs.Ytoeclfihlhmnpaa.X Go.Proofs.Ytoeclfihlhmnpaa.Ex
set_option linter.unusedVariables false
set_option linter.unusedSimpArgs false
open Go.Proofs.Ytoeclfihlhmnpaa.B (nxt nxt_bd kd_bd next_eq mkL mkL_length mkA cfv sd onb tests Sm ev_pzOf ev_asHas sd_iff onb_iff pzSide_eq pzOn_eq spec_in_eq impl_within_eq isHidden_eq hid_g1 hid_g2 hid_g3 hid_g4 hid_g5 hid_g6)
/-- A clue that is made, in the program and in the reference. -/
structure CFI (cf : Int → Int → Int → S_impl_Clue) (px py : Int) : Prop where
  run : ∀ (k x y : Int) (w : World), 0 ≤ k ∧ k ≤ 5 → (k < 3 → x = 0 ∧ y = 0) → 0 ≤ x ∧ x ≤ 12 → 0 ≤ y ∧ y ≤ 12 → Calls Try.prog 56 #[.agg #[.int .i64 k, .int .i64 x, .int .i64 y, .int .i64 0], .agg #[.int .i64 px, .int .i64 py]] w fun e w' => e = .returned (.agg #[.int .i64 (cf k x y).f0, .int .i64 (cf k x y).f1, .int .i64 (cf k x y).f2, .int .i64 (cf k x y).f3]) ∧ Below w.heap.size w w'
structure CFS (cf : Int → Int → Int → S_impl_Clue) (px py : Int) : Prop where
  run : ∀ (k x y : Int) (w : World), 0 ≤ k ∧ k ≤ 5 → (k < 3 → x = 0 ∧ y = 0) → 0 ≤ x ∧ x ≤ 12 → 0 ≤ y ∧ y ≤ 12 → Calls Try.prog 61 #[.int .i64 k, .agg #[.int .i64 x, .int .i64 y], .agg #[.int .i64 px, .int .i64 py]] w fun e w' => e = .returned (.agg #[.int .i64 (cf k x y).f0, .int .i64 (cf k x y).f1, .int .i64 (cf k x y).f2, .int .i64 (cf k x y).f3]) ∧ Below w.heap.size w w'
/-- The program's closure: its own number, one further. -/
theorem next55 {W0 w0 w : World} {S : Option Nat} {bs : List Bx} {rs : List Rw} {g : Nat} {z n : Int} (HM : Me W0 w0 S w bs rs) (hm : (⟨g, 3, [.int .i64 z]⟩ : Bx) ∈ bs := by repeat (first | exact List.mem_cons_self | apply List.mem_cons_of_mem)) (hz : 0 ≤ z ∧ z ≤ 10008) (hn : 1 ≤ n) : Calls Try.prog 55 #[.int .i64 n, .pointer (some ⟨g, 0, none⟩)] w fun e w' => e = .returned (.int .i64 ((nxt z).tmod n)) ∧ KeepBut w w' g none ∧ w'.heap[g]? = some (.cells [.int .i64 (nxt z)].toArray 3 (0, 0)) ∧ Below W0.heap.size W0 w' := by
  obtain ⟨k, hk⟩ := List.mem_iff_getElem?.1 hm
  refine Ex.start (N := 11) [.int .i64 n, .pointer (some ⟨g, 0, none⟩)] Try.func55 rfl (by kernel_rfl) (by simp) fun a HF => ?_
  replace HM := Me.startC HM.bel (HM.ge hk) (HM.at_ hk)
  have hx : IntKind.i64.wrap (IntKind.i64.wrap (z * 197) + 3079) = 197 * z + 3079 := by rw [wr (x := z * 197), wr (x := z * 197 + 3079)]; omega
  refine rg ?_
  (repeat (first | (refine sA HF ?_; clear HF a; intro a HF) | (refine sB HF HM ?_; clear HF a; intro a HF) | (refine aA HF HM ?_; clear HF HM a; intro g a w HF HM) | (refine so HF HM ?_; clear HM; intro w HM) | refine gy HF ?_ | ((first | refine gn HF ?_ | refine gu HF ?_); clear HF a; intro a HF) | refine rn ?_ | refine rg ?_))
  rw [hx] at HM HF
  refine rt ?_
  (repeat (first | refine tr ?_ | refine tb ?_))
  exact rt1 HF rfl rfl ⟨rfl, HM.keep, HM.at_ (k := 0) rfl, HM.bel⟩
def smk.T15 : Bool × List (List Nat × List Nat) := (true, [([], []), ([0], [0]), ([], []), ([], []), ([], []), ([2, 3, 4], [2, 3, 4]), ([5], [5]), ([1, 6, 5], [1, 6]), ([0, 1, 2, 3, 4, 5, 6, 7], []), ([8, 7, 7, 0, 1, 2, 3, 4, 5, 6, 7], [7, 8])])
def smk.B15 : List Nat := [0, 1, 0, 0, 0, 28, 60, 127, 255, 511]
theorem smk.tab15 : rtab .any (opsOf Try.f17 15) = smk.T15 := by kernel_rfl
theorem smk.bits15 : waitsOk smk.T15.2 smk.B15 = true := by kernel_rfl

set_option maxHeartbeats 4000000 in
set_option maxRecDepth 100000 in
theorem mkSpec (cf : Int → Int → Int → S_impl_Clue) (side px py n z : Int) (b1 b2 b3 b4 : Bool) (h1 : spec_pzSide.f side = some b1) (h2 : spec_pzOn.f side px py = some b2) (h3 : spec_l1In.f n 0 6 = some b3) (h4 : spec_l1In.f z 0 9999 = some b4) (hcf : b1 = true → b2 = true → CFS cf px py) (hr : b1 = true → b2 = true → b3 = true → b4 = true → (1 ≤ side ∧ side ≤ 12) ∧ (0 ≤ n ∧ n ≤ 6) ∧ (0 ≤ z ∧ z ≤ 9999)) (wS : World) : Calls Try.prog 17 #[.int .i64 side, .agg #[.int .i64 px, .int .i64 py], .int .i64 n, .int .i64 z] wS fun e w' => ∃ (A : Option Addr) (c : Nat), e = .returned (.tuple #[.agg #[.int .i64 (mkA cf side n z (b1 && (b2 && (b3 && b4)))).1, .slice A (mkA cf side n z (b1 && (b2 && (b3 && b4)))).2.1.length c], .bool (mkA cf side n z (b1 && (b2 && (b3 && b4)))).2.2]) ∧ Kd.R kd_impl_Clue 48 w' wS.heap.size (fun _ => True) (.slice A (mkA cf side n z (b1 && (b2 && (b3 && b4)))).2.1.length c) (mkA cf side n z (b1 && (b2 && (b3 && b4)))).2.1 ∧ Below wS.heap.size wS w' := by
  refine Ex.start (N := 72) [.int .i64 side, .agg #[.int .i64 px, .int .i64 py], .int .i64 n, .int .i64 z] Try.func17 rfl (by kernel_rfl) (by simp) fun a HF => ?_
  have HM := Me.start wS
  (repeat (first | (refine bx (bz41 _ _) HF HM ?_; clear HF HM a; intro g a w HF HM) | (refine sA HF ?_; clear HF a; intro a HF) | (refine sB HF HM ?_; clear HF a; intro a HF) | (refine aA HF HM ?_; clear HF HM a; intro g a w HF HM) | (refine so HF HM ?_; clear HM; intro w HM) | refine gy HF ?_ | ((first | refine gn HF ?_ | refine gu HF ?_); clear HF a; intro a HF) | refine rn ?_ | refine rg ?_))
  refine sq (rg ?_)
  cases b1 <;> cases b2 <;> cases b3 <;> cases b4
  all_goals
    (repeat (first | (refine cl (f := 57) HF Try.func57 (by kernel_rfl) ?_; (with_reducible refine (spec_pzSide.calls side _ _ h1).mono ?_); rintro e w1 ⟨rfl, ⟨nd, rfl⟩⟩; refine ⟨_, rfl, ?_⟩; replace HM := HM.call (pw_below_drewN (Below.refl _ _) nd); clear HF a; intro a HF) | (refine cl (f := 58) HF Try.func58 (by kernel_rfl) ?_; (with_reducible refine (spec_pzOn.calls side px py _ _ h2).mono ?_); rintro e w1 ⟨rfl, hb_⟩; refine ⟨_, rfl, ?_⟩; replace HM := HM.call hb_; clear HF a; intro a HF) | (refine cl (f := 59) HF Try.func59 (by kernel_rfl) ?_; (with_reducible refine (spec_l1In.calls n 0 6 _ _ h3).mono ?_); rintro e w1 ⟨rfl, ⟨nd, rfl⟩⟩; refine ⟨_, rfl, ?_⟩; replace HM := HM.call (pw_below_drewN (Below.refl _ _) nd); clear HF a; intro a HF) | (refine cl (f := 59) HF Try.func59 (by kernel_rfl) ?_; (with_reducible refine (spec_l1In.calls z 0 9999 _ _ h4).mono ?_); rintro e w1 ⟨rfl, ⟨nd, rfl⟩⟩; refine ⟨_, rfl, ?_⟩; replace HM := HM.call (pw_below_drewN (Below.refl _ _) nd); clear HF a; intro a HF) | (refine sA HF ?_; clear HF a; intro a HF) | (refine sB HF HM ?_; clear HF a; intro a HF) | (refine aA HF HM ?_; clear HF HM a; intro g a w HF HM) | (refine so HF HM ?_; clear HM; intro w HM) | refine gy HF ?_ | ((first | refine gn HF ?_ | refine gu HF ?_); clear HF a; intro a HF) | refine rn ?_ | refine rg ?_))
    try (refine cT HF ?_; (repeat (first | (refine sA HF ?_; clear HF a; intro a HF) | (refine sB HF HM ?_; clear HF a; intro a HF) | (refine aA HF HM ?_; clear HF HM a; intro g a w HF HM) | (refine so HF HM ?_; clear HM; intro w HM) | refine gy HF ?_ | ((first | refine gn HF ?_ | refine gu HF ?_); clear HF a; intro a HF) | refine rn ?_ | refine rg ?_)); refine rt ?_; (repeat (first | refine tr ?_ | refine tb ?_)); exact rL HF rfl (vc st31 HF HM (vt HF .nil)) ⟨none, 0, rfl, Kd.R_nil _ _ _ _ _, HM.bel⟩)
  replace hcf := hcf rfl rfl
  obtain ⟨k1, k2, k3⟩ := hr rfl rfl rfl rfl
  clear hr h1 h2 h3 h4
  show WC _ _ _ _ _
  refine cF HF (sk ?_)
  (repeat (first | (refine sA HF ?_; clear HF a; intro a HF) | (refine sB HF HM ?_; clear HF a; intro a HF) | (refine aA HF HM ?_; clear HF HM a; intro g a w HF HM) | (refine so HF HM ?_; clear HM; intro w HM) | refine gy HF ?_ | ((first | refine gn HF ?_ | refine gu HF ?_); clear HF a; intro a HF) | refine rn ?_ | refine rg ?_))
  replace HM := HM.nilrow kd_impl_Clue 48
  refine cx (fun a w => ∃ m : Nat, m = 0 ∧ ∃ (g5 g8 g10 : Nat) (acc : List S_impl_Clue) (A : Option Addr) (c : Nat) (z' : Int), Fr 72 a [(0, .int .i64 side), (2, .int .i64 (m : Int)), (5, .pointer (some ⟨g5, 0, none⟩)), (8, .pointer (some ⟨g8, 0, none⟩)), (10, .pointer (some ⟨g10, 0, none⟩)), (11, .int .i64 z')] ∧ Me wS wS none w [⟨g10, 31, [.int .i64 side, .slice A acc.length c]⟩, ⟨g8, 31, [.int .i64 0, .slice none 0 0]⟩, ⟨g5, 41, [.int .i64 px, .int .i64 py]⟩] [⟨kd_impl_Clue, 48, .slice A acc.length c, acc⟩] ∧ acc ++ mkL cf side m z' = mkL cf side n.toNat z ∧ acc.length + m = n.toNat ∧ 0 ≤ z' ∧ z' ≤ 10008) (fun K hK => ?_) ?_
  · have hn0 : ((n.toNat : Nat) : Int) = n := Int.toNat_of_nonneg k2.1
    rw [← hn0] at HF
    refine bk (lp (fun m a w => ∃ (g5 g8 g10 : Nat) (acc : List S_impl_Clue) (A : Option Addr) (c : Nat) (z' : Int), Fr 72 a [(0, .int .i64 side), (2, .int .i64 (m : Int)), (5, .pointer (some ⟨g5, 0, none⟩)), (8, .pointer (some ⟨g8, 0, none⟩)), (10, .pointer (some ⟨g10, 0, none⟩)), (11, .int .i64 z')] ∧ Me wS wS none w [⟨g10, 31, [.int .i64 side, .slice A acc.length c]⟩, ⟨g8, 31, [.int .i64 0, .slice none 0 0]⟩, ⟨g5, 41, [.int .i64 px, .int .i64 py]⟩] [⟨kd_impl_Clue, 48, .slice A acc.length c, acc⟩] ∧ acc ++ mkL cf side m z' = mkL cf side n.toNat z ∧ acc.length + m = n.toNat ∧ 0 ≤ z' ∧ z' ≤ 10008) n.toNat ⟨_, _, _, [], none, 0, z, HF.sub, HM.sub (by repeat (first | exact List.Sublist.refl _ | exact List.nil_sublist _ | apply List.Sublist.cons_cons | apply List.Sublist.cons)) (by repeat (first | exact List.Sublist.refl _ | exact List.nil_sublist _ | apply List.Sublist.cons_cons | apply List.Sublist.cons)), rfl, by simp, by omega, by omega⟩ ?_)
    clear HF HM
    rintro m a w ⟨g5, g8, g10, acc, A, c, z', HF, HM, e1, e2, e3, e4⟩ K2 hK2
    refine sq (rg ?_)
    cases m with
    | zero =>
      (repeat (first | (refine sA HF ?_; clear HF a; intro a HF) | (refine sB HF HM ?_; clear HF a; intro a HF) | (refine aA HF HM ?_; clear HF HM a; intro g a w HF HM) | (refine so HF HM ?_; clear HM; intro w HM) | refine gy HF ?_ | ((first | refine gn HF ?_ | refine gu HF ?_); clear HF a; intro a HF) | refine rn ?_ | refine rg ?_))
      refine cF HF (xe ?_)
      (repeat refine xt ?_)
      exact ib (hK _ _ ⟨0, rfl, _, _, _, _, _, _, _, HF.sub, HM.sub (by repeat (first | exact List.Sublist.refl _ | exact List.nil_sublist _ | apply List.Sublist.cons_cons | apply List.Sublist.cons)) (by repeat (first | exact List.Sublist.refl _ | exact List.nil_sublist _ | apply List.Sublist.cons_cons | apply List.Sublist.cons)), e1, e2, e3, e4⟩)
    | succ m =>
      (repeat (first | (refine sA HF ?_; clear HF a; intro a HF) | (refine sB HF HM ?_; clear HF a; intro a HF) | (refine aA HF HM ?_; clear HF HM a; intro g a w HF HM) | (refine so HF HM ?_; clear HM; intro w HM) | refine gy HF ?_ | ((first | refine gn HF ?_ | refine gu HF ?_); clear HF a; intro a HF) | refine rn ?_ | refine rg ?_))
      refine cT HF (sk ?_)
      have q1 := nxt_bd e3
      have q2 := nxt_bd q1.1
      have q3 := nxt_bd q2.1
      have q4 := kd_bd q1.1 (m := 6) (by decide)
      have q5 := kd_bd q2.1 (m := side + 1) (by omega)
      have q6 := kd_bd q3.1 (m := side + 1) (by omega)
      by_cases hq : 2 < (nxt z').tmod 6
      · refine sq (bk ?_)
        (repeat (first | (refine cl (f := 60) HF Try.func60 (by kernel_rfl) ?_; (with_reducible refine (spec_pzNext.calls _ _ _ (next_eq (by omega))).mono ?_); rintro e w1 ⟨rfl, ⟨nd, rfl⟩⟩; refine ⟨_, rfl, ?_⟩; replace HM := HM.call (pw_below_drewN (Below.refl _ _) nd); clear HF a; intro a HF) | (refine sA HF ?_; clear HF a; intro a HF) | (refine sB HF HM ?_; clear HF a; intro a HF) | (refine aA HF HM ?_; clear HF HM a; intro g a w HF HM) | (refine so HF HM ?_; clear HM; intro w HM) | refine gy HF ?_ | ((first | refine gn HF ?_ | refine gu HF ?_); clear HF a; intro a HF) | refine rn ?_ | refine rg ?_))
        refine sq (rg ?_)
        (repeat (first | (refine sA HF ?_; clear HF a; intro a HF) | (refine sB HF HM ?_; clear HF a; intro a HF) | (refine aA HF HM ?_; clear HF HM a; intro g a w HF HM) | (refine so HF HM ?_; clear HM; intro w HM) | refine gy HF ?_ | ((first | refine gn HF ?_ | refine gu HF ?_); clear HF a; intro a HF) | refine rn ?_ | refine rg ?_))
        refine cT HF ?_
        (repeat (first | (refine cl (f := 60) HF Try.func60 (by kernel_rfl) ?_; (with_reducible refine (spec_pzNext.calls _ _ _ (next_eq (by omega))).mono ?_); rintro e w1 ⟨rfl, ⟨nd, rfl⟩⟩; refine ⟨_, rfl, ?_⟩; replace HM := HM.call (pw_below_drewN (Below.refl _ _) nd); clear HF a; intro a HF) | (refine sA HF ?_; clear HF a; intro a HF) | (refine sB HF HM ?_; clear HF a; intro a HF) | (refine aA HF HM ?_; clear HF HM a; intro g a w HF HM) | (refine so HF HM ?_; clear HM; intro w HM) | refine gy HF ?_ | ((first | refine gn HF ?_ | refine gu HF ?_); clear HF a; intro a HF) | refine rn ?_ | refine rg ?_ | refine rl ?_))
        refine dw2l (n := 10) (ds := [9]) (bs' := [⟨_, 41, [.int .i64 _, .int .i64 _]⟩, ⟨_, 31, [.int .i64 side, .slice A acc.length c]⟩, ⟨_, 41, [.int .i64 px, .int .i64 py]⟩]) (rs' := []) smk.tab15 smk.bits15 HM (by repeat (first | exact List.Sublist.refl _ | exact List.nil_sublist _ | apply List.Sublist.cons_cons | apply List.Sublist.cons)) (by repeat (first | exact List.Sublist.refl _ | exact List.nil_sublist _ | apply List.Sublist.cons_cons | apply List.Sublist.cons)) ?_; clear HM; intro w HM HT HW; have HS := HM.sub (bs' := [⟨_, 41, [.int .i64 _, .int .i64 _]⟩, ⟨_, 31, [.int .i64 side, .slice A acc.length c]⟩, ⟨_, 41, [.int .i64 px, .int .i64 py]⟩]) (rs' := []) (by repeat (first | exact List.Sublist.refl _ | exact List.nil_sublist _ | apply List.Sublist.cons_cons | apply List.Sublist.cons)) (by repeat (first | exact List.Sublist.refl _ | exact List.nil_sublist _ | apply List.Sublist.cons_cons | apply List.Sublist.cons))
        refine pA 0 1 HT rfl HF ?_; clear HF a; intro a HF
        refine pB 1 3 HT rfl HW HF HS ?_; clear HF a; intro a HF
        refine pA 2 7 HT rfl HF ?_; clear HF a; intro a HF
        refine pB 3 15 HT rfl HW HF HS ?_; clear HF a; intro a HF
        refine pB 4 31 HT rfl HW HF HS ?_; clear HF a; intro a HF
        refine r1_ 5 63 HT (fun K_ hK_ => ?_); refine kc HF g0 Try.func61 (by kernel_rfl) ?_; (with_reducible refine (hcf.run _ _ _ _ (by omega) (by omega) (by omega) (by omega)).mono ?_); rintro e w1 ⟨rfl, hb_⟩; refine ⟨_, rfl, ?_⟩; replace HM := HM.call hb_; clear HF a; intro a HF; refine hK_ _ _ (HM.sub (by repeat (first | exact List.Sublist.refl _ | exact List.nil_sublist _ | apply List.Sublist.cons_cons | apply List.Sublist.cons)) (by repeat (first | exact List.Sublist.refl _ | exact List.nil_sublist _ | apply List.Sublist.cons_cons | apply List.Sublist.cons))) ?_; clear hK_ K_ HS; intro HS
        refine r1_ 6 127 HT (fun K_ hK_ => ?_); refine kl (lzC1 _ _ _ _) HF HM ?_; clear HF HM a; intro Al cl_ a w HF HM; refine hK_ _ _ (HM.sub (by repeat (first | exact List.Sublist.refl _ | exact List.nil_sublist _ | apply List.Sublist.cons_cons | apply List.Sublist.cons)) (by repeat (first | exact List.Sublist.refl _ | exact List.nil_sublist _ | apply List.Sublist.cons_cons | apply List.Sublist.cons))) ?_; clear hK_ K_ HS; intro HS
        refine r1_ 7 255 HT (fun K_ hK_ => ?_); refine kar apC HF HM ?_ (hl := by (simp only [List.length_append, List.length_cons, List.length_nil]; omega)); clear HF HM a; intro Al cl_ a w HF HM; refine hK_ _ _ (HM.sub (by repeat (first | exact List.Sublist.refl _ | exact List.nil_sublist _ | apply List.Sublist.cons_cons | apply List.Sublist.cons)) (by repeat (first | exact List.Sublist.refl _ | exact List.nil_sublist _ | apply List.Sublist.cons_cons | apply List.Sublist.cons))) ?_; clear hK_ K_ HS; intro HS
        refine pA 8 511 HT rfl HF ?_; clear HF a; intro a HF
        refine r1l_ 9 1023 HT (fun K_ hK_ => ?_); refine ks HF HM ?_; clear HM; intro w HM; refine hK_ _ _ ?_; clear hK_ K_ HS
        refine dnB HT ?_
        refine rl ?_
        (repeat (first | (refine sA HF ?_; clear HF a; intro a HF) | (refine sB HF HM ?_; clear HF a; intro a HF) | (refine aA HF HM ?_; clear HF HM a; intro g a w HF HM) | (refine so HF HM ?_; clear HM; intro w HM) | refine gy HF ?_ | ((first | refine gn HF ?_ | refine gu HF ?_); clear HF a; intro a HF) | refine rn ?_ | refine rg ?_))
        rw [show (((m + 1 : Nat) : Int) - 1) = (m : Int) from by omega] at HF
        refine nl (hK2 m _ _ (Nat.lt_succ_self m) ⟨_, _, _, acc ++ [cf ((nxt z').tmod 6) ((nxt (nxt z')).tmod (side + 1)) ((nxt (nxt (nxt z'))).tmod (side + 1))], _, _, (nxt (nxt (nxt z'))), HF.sub, HM.sub (by repeat (first | exact List.Sublist.refl _ | exact List.nil_sublist _ | apply List.Sublist.cons_cons | apply List.Sublist.cons)) (by repeat (first | exact List.Sublist.refl _ | exact List.nil_sublist _ | apply List.Sublist.cons_cons | apply List.Sublist.cons)), ?_, ?_, ?_⟩)
        · rw [← e1]; simp [mkL, hq]
        · simp only [List.length_append, List.length_cons, List.length_nil]; omega
        · omega
      · refine sq (bk ?_)
        (repeat (first | (refine cl (f := 60) HF Try.func60 (by kernel_rfl) ?_; (with_reducible refine (spec_pzNext.calls _ _ _ (next_eq (by omega))).mono ?_); rintro e w1 ⟨rfl, ⟨nd, rfl⟩⟩; refine ⟨_, rfl, ?_⟩; replace HM := HM.call (pw_below_drewN (Below.refl _ _) nd); clear HF a; intro a HF) | (refine sA HF ?_; clear HF a; intro a HF) | (refine sB HF HM ?_; clear HF a; intro a HF) | (refine aA HF HM ?_; clear HF HM a; intro g a w HF HM) | (refine so HF HM ?_; clear HM; intro w HM) | refine gy HF ?_ | ((first | refine gn HF ?_ | refine gu HF ?_); clear HF a; intro a HF) | refine rn ?_ | refine rg ?_))
        refine sq (rg ?_)
        (repeat (first | (refine sA HF ?_; clear HF a; intro a HF) | (refine sB HF HM ?_; clear HF a; intro a HF) | (refine aA HF HM ?_; clear HF HM a; intro g a w HF HM) | (refine so HF HM ?_; clear HM; intro w HM) | refine gy HF ?_ | ((first | refine gn HF ?_ | refine gu HF ?_); clear HF a; intro a HF) | refine rn ?_ | refine rg ?_))
        refine cF HF (sk ?_)
        refine dw2l (n := 10) (ds := [9]) (bs' := [⟨_, 41, [.int .i64 _, .int .i64 _]⟩, ⟨_, 31, [.int .i64 side, .slice A acc.length c]⟩, ⟨_, 41, [.int .i64 px, .int .i64 py]⟩]) (rs' := []) smk.tab15 smk.bits15 HM (by repeat (first | exact List.Sublist.refl _ | exact List.nil_sublist _ | apply List.Sublist.cons_cons | apply List.Sublist.cons)) (by repeat (first | exact List.Sublist.refl _ | exact List.nil_sublist _ | apply List.Sublist.cons_cons | apply List.Sublist.cons)) ?_; clear HM; intro w HM HT HW; have HS := HM.sub (bs' := [⟨_, 41, [.int .i64 _, .int .i64 _]⟩, ⟨_, 31, [.int .i64 side, .slice A acc.length c]⟩, ⟨_, 41, [.int .i64 px, .int .i64 py]⟩]) (rs' := []) (by repeat (first | exact List.Sublist.refl _ | exact List.nil_sublist _ | apply List.Sublist.cons_cons | apply List.Sublist.cons)) (by repeat (first | exact List.Sublist.refl _ | exact List.nil_sublist _ | apply List.Sublist.cons_cons | apply List.Sublist.cons))
        refine pA 0 1 HT rfl HF ?_; clear HF a; intro a HF
        refine pB 1 3 HT rfl HW HF HS ?_; clear HF a; intro a HF
        refine pA 2 7 HT rfl HF ?_; clear HF a; intro a HF
        refine pB 3 15 HT rfl HW HF HS ?_; clear HF a; intro a HF
        refine pB 4 31 HT rfl HW HF HS ?_; clear HF a; intro a HF
        refine r1_ 5 63 HT (fun K_ hK_ => ?_); refine kc HF g0 Try.func61 (by kernel_rfl) ?_; (with_reducible refine (hcf.run _ _ _ _ (by omega) (by omega) (by omega) (by omega)).mono ?_); rintro e w1 ⟨rfl, hb_⟩; refine ⟨_, rfl, ?_⟩; replace HM := HM.call hb_; clear HF a; intro a HF; refine hK_ _ _ (HM.sub (by repeat (first | exact List.Sublist.refl _ | exact List.nil_sublist _ | apply List.Sublist.cons_cons | apply List.Sublist.cons)) (by repeat (first | exact List.Sublist.refl _ | exact List.nil_sublist _ | apply List.Sublist.cons_cons | apply List.Sublist.cons))) ?_; clear hK_ K_ HS; intro HS
        refine r1_ 6 127 HT (fun K_ hK_ => ?_); refine kl (lzC1 _ _ _ _) HF HM ?_; clear HF HM a; intro Al cl_ a w HF HM; refine hK_ _ _ (HM.sub (by repeat (first | exact List.Sublist.refl _ | exact List.nil_sublist _ | apply List.Sublist.cons_cons | apply List.Sublist.cons)) (by repeat (first | exact List.Sublist.refl _ | exact List.nil_sublist _ | apply List.Sublist.cons_cons | apply List.Sublist.cons))) ?_; clear hK_ K_ HS; intro HS
        refine r1_ 7 255 HT (fun K_ hK_ => ?_); refine kar apC HF HM ?_ (hl := by (simp only [List.length_append, List.length_cons, List.length_nil]; omega)); clear HF HM a; intro Al cl_ a w HF HM; refine hK_ _ _ (HM.sub (by repeat (first | exact List.Sublist.refl _ | exact List.nil_sublist _ | apply List.Sublist.cons_cons | apply List.Sublist.cons)) (by repeat (first | exact List.Sublist.refl _ | exact List.nil_sublist _ | apply List.Sublist.cons_cons | apply List.Sublist.cons))) ?_; clear hK_ K_ HS; intro HS
        refine pA 8 511 HT rfl HF ?_; clear HF a; intro a HF
        refine r1l_ 9 1023 HT (fun K_ hK_ => ?_); refine ks HF HM ?_; clear HM; intro w HM; refine hK_ _ _ ?_; clear hK_ K_ HS
        refine dnB HT ?_
        refine rl ?_
        (repeat (first | (refine sA HF ?_; clear HF a; intro a HF) | (refine sB HF HM ?_; clear HF a; intro a HF) | (refine aA HF HM ?_; clear HF HM a; intro g a w HF HM) | (refine so HF HM ?_; clear HM; intro w HM) | refine gy HF ?_ | ((first | refine gn HF ?_ | refine gu HF ?_); clear HF a; intro a HF) | refine rn ?_ | refine rg ?_))
        rw [show (((m + 1 : Nat) : Int) - 1) = (m : Int) from by omega] at HF
        refine nl (hK2 m _ _ (Nat.lt_succ_self m) ⟨_, _, _, acc ++ [cf ((nxt z').tmod 6) 0 0], _, _, (nxt z'), HF.sub, HM.sub (by repeat (first | exact List.Sublist.refl _ | exact List.nil_sublist _ | apply List.Sublist.cons_cons | apply List.Sublist.cons)) (by repeat (first | exact List.Sublist.refl _ | exact List.nil_sublist _ | apply List.Sublist.cons_cons | apply List.Sublist.cons)), ?_, ?_, ?_⟩)
        · rw [← e1]; simp [mkL, hq]
        · simp only [List.length_append, List.length_cons, List.length_nil]; omega
        · omega
  · rintro a w ⟨m, rfl, g5, g8, g10, acc, A, c, z', HF, HM, e1, e2, e3, e4⟩
    obtain rfl : acc = mkL cf side n.toNat z := by simpa [mkL] using e1
    refine rg ?_
    (repeat (first | (refine sA HF ?_; clear HF a; intro a HF) | (refine sB HF HM ?_; clear HF a; intro a HF) | (refine aA HF HM ?_; clear HF HM a; intro g a w HF HM) | (refine so HF HM ?_; clear HM; intro w HM) | refine gy HF ?_ | ((first | refine gn HF ?_ | refine gu HF ?_); clear HF a; intro a HF) | refine rn ?_ | refine rg ?_))
    refine rt ?_; (repeat (first | refine tr ?_ | refine tb ?_)); exact rL HF rfl (vc st31 HF HM (vt HF .nil)) ⟨A, c, rfl, HM.R_ 0, HM.bel⟩
def imk.T11 : Bool × List (List Nat × List Nat) := (true, [([], []), ([0], [0]), ([], []), ([], []), ([2, 3], [2, 3]), ([4], [4]), ([1, 5, 4], [1, 5]), ([0, 1, 2, 3, 4, 5, 6], []), ([7, 6, 6, 0, 1, 2, 3, 4, 5, 6], [6, 7])])
def imk.B11 : List Nat := [0, 1, 0, 0, 12, 28, 63, 127, 255]
theorem imk.tab11 : rtab .any (opsOf Try.f16 11) = imk.T11 := by kernel_rfl
theorem imk.bits11 : waitsOk imk.T11.2 imk.B11 = true := by kernel_rfl

set_option maxHeartbeats 4000000 in
set_option maxRecDepth 100000 in
theorem mkImpl (cf : Int → Int → Int → S_impl_Clue) (side px py n z : Int) (b1 b2 b3 b4 : Bool) (h1 : impl_isHidden.f side px py = some b1) (h3 : impl_within.f n 0 6 = some b3) (h4 : impl_within.f z 0 9999 = some b4) (hb2 : b2 = true) (hcf : b1 = true → CFI cf px py) (hr : b1 = true → b2 = true → b3 = true → b4 = true → (1 ≤ side ∧ side ≤ 12) ∧ (0 ≤ n ∧ n ≤ 6) ∧ (0 ≤ z ∧ z ≤ 9999)) (wS : World) : Calls Try.prog 16 #[.int .i64 side, .agg #[.int .i64 px, .int .i64 py], .int .i64 n, .int .i64 z] wS fun e w' => ∃ (A : Option Addr) (c : Nat), e = .returned (.tuple #[.agg #[.int .i64 (mkA cf side n z (b1 && (b2 && (b3 && b4)))).1, .slice A (mkA cf side n z (b1 && (b2 && (b3 && b4)))).2.1.length c], .bool (mkA cf side n z (b1 && (b2 && (b3 && b4)))).2.2]) ∧ Kd.R kd_impl_Clue 48 w' wS.heap.size (fun _ => True) (.slice A (mkA cf side n z (b1 && (b2 && (b3 && b4)))).2.1.length c) (mkA cf side n z (b1 && (b2 && (b3 && b4)))).2.1 ∧ Below wS.heap.size wS w' := by
  refine Ex.start (N := 62) [.int .i64 side, .agg #[.int .i64 px, .int .i64 py], .int .i64 n, .int .i64 z] Try.func16 rfl (by kernel_rfl) (by simp) fun a HF => ?_
  have HM := Me.start wS
  subst hb2
  (repeat (first | (refine bx (bz41 _ _) HF HM ?_; clear HF HM a; intro g a w HF HM) | (refine sA HF ?_; clear HF a; intro a HF) | (refine sB HF HM ?_; clear HF a; intro a HF) | (refine aA HF HM ?_; clear HF HM a; intro g a w HF HM) | (refine so HF HM ?_; clear HM; intro w HM) | refine gy HF ?_ | ((first | refine gn HF ?_ | refine gu HF ?_); clear HF a; intro a HF) | refine rn ?_ | refine rg ?_))
  refine sq (rg ?_)
  cases b1 <;> cases b3 <;> cases b4
  all_goals
    (repeat (first | (refine cl (f := 53) HF Try.func53 (by kernel_rfl) ?_; (with_reducible refine (impl_isHidden.calls side px py _ _ h1).mono ?_); rintro e w1 ⟨rfl, hb_⟩; refine ⟨_, rfl, ?_⟩; replace HM := HM.call hb_; clear HF a; intro a HF) | (refine cl (f := 54) HF Try.func54 (by kernel_rfl) ?_; (with_reducible refine (impl_within.calls n 0 6 _ _ h3).mono ?_); rintro e w1 ⟨rfl, ⟨nd, rfl⟩⟩; refine ⟨_, rfl, ?_⟩; replace HM := HM.call (pw_below_drewN (Below.refl _ _) nd); clear HF a; intro a HF) | (refine cl (f := 54) HF Try.func54 (by kernel_rfl) ?_; (with_reducible refine (impl_within.calls z 0 9999 _ _ h4).mono ?_); rintro e w1 ⟨rfl, ⟨nd, rfl⟩⟩; refine ⟨_, rfl, ?_⟩; replace HM := HM.call (pw_below_drewN (Below.refl _ _) nd); clear HF a; intro a HF) | (refine sA HF ?_; clear HF a; intro a HF) | (refine sB HF HM ?_; clear HF a; intro a HF) | (refine aA HF HM ?_; clear HF HM a; intro g a w HF HM) | (refine so HF HM ?_; clear HM; intro w HM) | refine gy HF ?_ | ((first | refine gn HF ?_ | refine gu HF ?_); clear HF a; intro a HF) | refine rn ?_ | refine rg ?_))
    try (refine cT HF ?_; (repeat (first | (refine sA HF ?_; clear HF a; intro a HF) | (refine sB HF HM ?_; clear HF a; intro a HF) | (refine aA HF HM ?_; clear HF HM a; intro g a w HF HM) | (refine so HF HM ?_; clear HM; intro w HM) | refine gy HF ?_ | ((first | refine gn HF ?_ | refine gu HF ?_); clear HF a; intro a HF) | refine rn ?_ | refine rg ?_)); refine rt ?_; (repeat (first | refine tr ?_ | refine tb ?_)); exact rL HF rfl (vc st31 HF HM (vt HF .nil)) ⟨none, 0, rfl, Kd.R_nil _ _ _ _ _, HM.bel⟩)
  replace hcf := hcf rfl
  obtain ⟨k1, k2, k3⟩ := hr rfl rfl rfl rfl
  clear hr h1 h3 h4
  show WC _ _ _ _ _
  refine cF HF (sk ?_)
  (repeat (first | (refine al az3 HF HM ?_; clear HF HM a; intro g a w HF HM) | (refine sA HF ?_; clear HF a; intro a HF) | (refine sB HF HM ?_; clear HF a; intro a HF) | (refine aA HF HM ?_; clear HF HM a; intro g a w HF HM) | (refine so HF HM ?_; clear HM; intro w HM) | refine gy HF ?_ | ((first | refine gn HF ?_ | refine gu HF ?_); clear HF a; intro a HF) | refine rn ?_ | refine rg ?_))
  replace HM := HM.nilrow kd_impl_Clue 48
  refine cx (fun a w => ∃ m : Nat, m = 0 ∧ ∃ (g5 g8 g10 g11 : Nat) (acc : List S_impl_Clue) (A : Option Addr) (c : Nat) (z' i : Int), Fr 62 a [(0, .int .i64 side), (5, .pointer (some ⟨g5, 0, none⟩)), (8, .pointer (some ⟨g8, 0, none⟩)), (10, .pointer (some ⟨g10, 0, none⟩)), (12, .func (.func 55) #[] [.pointer (some ⟨g11, 0, none⟩)].toArray), (33, .int .i64 n), (34, .int .i64 i)] ∧ Me wS wS none w [⟨g11, 3, [.int .i64 z']⟩, ⟨g10, 31, [.int .i64 side, .slice A acc.length c]⟩, ⟨g8, 31, [.int .i64 0, .slice none 0 0]⟩, ⟨g5, 41, [.int .i64 px, .int .i64 py]⟩] [⟨kd_impl_Clue, 48, .slice A acc.length c, acc⟩] ∧ acc ++ mkL cf side m z' = mkL cf side n.toNat z ∧ acc.length + m = n.toNat ∧ 0 ≤ z' ∧ z' ≤ 10008 ∧ i + m = n) (fun K hK => ?_) ?_
  · have hn0 : ((n.toNat : Nat) : Int) = n := Int.toNat_of_nonneg k2.1
    refine rg ?_
    (repeat (first | (refine sA HF ?_; clear HF a; intro a HF) | (refine sB HF HM ?_; clear HF a; intro a HF) | (refine aA HF HM ?_; clear HF HM a; intro g a w HF HM) | (refine so HF HM ?_; clear HM; intro w HM) | refine gy HF ?_ | ((first | refine gn HF ?_ | refine gu HF ?_); clear HF a; intro a HF) | refine rn ?_ | refine rg ?_))
    refine bk (lp (fun m a w => ∃ (g5 g8 g10 g11 : Nat) (acc : List S_impl_Clue) (A : Option Addr) (c : Nat) (z' i : Int), Fr 62 a [(0, .int .i64 side), (5, .pointer (some ⟨g5, 0, none⟩)), (8, .pointer (some ⟨g8, 0, none⟩)), (10, .pointer (some ⟨g10, 0, none⟩)), (12, .func (.func 55) #[] [.pointer (some ⟨g11, 0, none⟩)].toArray), (33, .int .i64 n), (34, .int .i64 i)] ∧ Me wS wS none w [⟨g11, 3, [.int .i64 z']⟩, ⟨g10, 31, [.int .i64 side, .slice A acc.length c]⟩, ⟨g8, 31, [.int .i64 0, .slice none 0 0]⟩, ⟨g5, 41, [.int .i64 px, .int .i64 py]⟩] [⟨kd_impl_Clue, 48, .slice A acc.length c, acc⟩] ∧ acc ++ mkL cf side m z' = mkL cf side n.toNat z ∧ acc.length + m = n.toNat ∧ 0 ≤ z' ∧ z' ≤ 10008 ∧ i + m = n) n.toNat ⟨_, _, _, _, [], none, 0, z, 0, HF.sub, HM.sub (by repeat (first | exact List.Sublist.refl _ | exact List.nil_sublist _ | apply List.Sublist.cons_cons | apply List.Sublist.cons)) (by repeat (first | exact List.Sublist.refl _ | exact List.nil_sublist _ | apply List.Sublist.cons_cons | apply List.Sublist.cons)), rfl, by simp, by omega, by omega, by omega⟩ ?_)
    clear HF HM
    rintro m a w ⟨g5, g8, g10, g11, acc, A, c, z', i, HF, HM, e1, e2, e3, e4, e5⟩ K2 hK2
    refine rg ?_
    cases m with
    | zero =>
      (repeat (first | (refine sA HF ?_; clear HF a; intro a HF) | (refine sB HF HM ?_; clear HF a; intro a HF) | (refine aA HF HM ?_; clear HF HM a; intro g a w HF HM) | (refine so HF HM ?_; clear HM; intro w HM) | refine gy HF ?_ | ((first | refine gn HF ?_ | refine gu HF ?_); clear HF a; intro a HF) | refine rn ?_ | refine rg ?_))
      refine sq (cF HF (xe ?_))
      (repeat refine xt ?_)
      exact ib (hK _ _ ⟨0, rfl, _, _, _, _, _, _, _, _, _, HF.sub, HM.sub (by repeat (first | exact List.Sublist.refl _ | exact List.nil_sublist _ | apply List.Sublist.cons_cons | apply List.Sublist.cons)) (by repeat (first | exact List.Sublist.refl _ | exact List.nil_sublist _ | apply List.Sublist.cons_cons | apply List.Sublist.cons)), e1, e2, e3, e4, e5⟩)
    | succ m =>
      (repeat (first | (refine sA HF ?_; clear HF a; intro a HF) | (refine sB HF HM ?_; clear HF a; intro a HF) | (refine aA HF HM ?_; clear HF HM a; intro g a w HF HM) | (refine so HF HM ?_; clear HM; intro w HM) | refine gy HF ?_ | ((first | refine gn HF ?_ | refine gu HF ?_); clear HF a; intro a HF) | refine rn ?_ | refine rg ?_))
      refine sq (cT HF (sk ?_))
      have q1 := nxt_bd e3
      have q2 := nxt_bd q1.1
      have q3 := nxt_bd q2.1
      have q4 := kd_bd q1.1 (m := 6) (by decide)
      have q5 := kd_bd q2.1 (m := side + 1) (by omega)
      have q6 := kd_bd q3.1 (m := side + 1) (by omega)
      refine sq (bk ?_)
      (repeat (first | (refine clC (f := 55) HF Try.func55 (by kernel_rfl) ?_; show Calls _ _ #[_, _] _ _; (with_reducible refine (next55 HM (hz := by omega) (hn := by omega)).mono ?_); rintro e w1 ⟨rfl, hk_, ha_, hb_⟩; refine ⟨_, rfl, ?_⟩; replace HM := HM.curp hk_ ha_ hb_ (Pt.set (by repeat (first | exact Pt.hd | apply Pt.tl))); clear HF a; intro a HF) | (refine sA HF ?_; clear HF a; intro a HF) | (refine sB HF HM ?_; clear HF a; intro a HF) | (refine aA HF HM ?_; clear HF HM a; intro g a w HF HM) | (refine so HF HM ?_; clear HM; intro w HM) | refine gy HF ?_ | ((first | refine gn HF ?_ | refine gu HF ?_); clear HF a; intro a HF) | refine rn ?_ | refine rg ?_))
      by_cases hq : 2 < (nxt z').tmod 6
      · refine sq (rg ?_)
        (repeat (first | (refine sA HF ?_; clear HF a; intro a HF) | (refine sB HF HM ?_; clear HF a; intro a HF) | (refine aA HF HM ?_; clear HF HM a; intro g a w HF HM) | (refine so HF HM ?_; clear HM; intro w HM) | refine gy HF ?_ | ((first | refine gn HF ?_ | refine gu HF ?_); clear HF a; intro a HF) | refine rn ?_ | refine rg ?_))
        refine cT HF ?_
        (repeat (first | (refine clC (f := 55) HF Try.func55 (by kernel_rfl) ?_; show Calls _ _ #[_, _] _ _; (with_reducible refine (next55 HM (hz := by omega) (hn := by omega)).mono ?_); rintro e w1 ⟨rfl, hk_, ha_, hb_⟩; refine ⟨_, rfl, ?_⟩; replace HM := HM.curp hk_ ha_ hb_ (Pt.set (by repeat (first | exact Pt.hd | apply Pt.tl))); clear HF a; intro a HF) | (refine sA HF ?_; clear HF a; intro a HF) | (refine sB HF HM ?_; clear HF a; intro a HF) | (refine aA HF HM ?_; clear HF HM a; intro g a w HF HM) | (refine so HF HM ?_; clear HM; intro w HM) | refine gy HF ?_ | ((first | refine gn HF ?_ | refine gu HF ?_); clear HF a; intro a HF) | refine rn ?_ | refine rg ?_ | refine rl ?_))
        refine dw2l (n := 9) (ds := [8]) (bs' := [⟨_, 48, [.int .i64 _, .int .i64 _, .int .i64 _, .int .i64 _]⟩, ⟨_, 31, [.int .i64 side, .slice A acc.length c]⟩, ⟨_, 41, [.int .i64 px, .int .i64 py]⟩]) (rs' := []) imk.tab11 imk.bits11 HM (by repeat (first | exact List.Sublist.refl _ | exact List.nil_sublist _ | apply List.Sublist.cons_cons | apply List.Sublist.cons)) (by repeat (first | exact List.Sublist.refl _ | exact List.nil_sublist _ | apply List.Sublist.cons_cons | apply List.Sublist.cons)) ?_; clear HM; intro w HM HT HW; have HS := HM.sub (bs' := [⟨_, 48, [.int .i64 _, .int .i64 _, .int .i64 _, .int .i64 _]⟩, ⟨_, 31, [.int .i64 side, .slice A acc.length c]⟩, ⟨_, 41, [.int .i64 px, .int .i64 py]⟩]) (rs' := []) (by repeat (first | exact List.Sublist.refl _ | exact List.nil_sublist _ | apply List.Sublist.cons_cons | apply List.Sublist.cons)) (by repeat (first | exact List.Sublist.refl _ | exact List.nil_sublist _ | apply List.Sublist.cons_cons | apply List.Sublist.cons))
        refine pA 0 1 HT rfl HF ?_; clear HF a; intro a HF
        refine pB 1 3 HT rfl HW HF HS ?_; clear HF a; intro a HF
        refine pB 2 7 HT rfl HW HF HS ?_; clear HF a; intro a HF
        refine pB 3 15 HT rfl HW HF HS ?_; clear HF a; intro a HF
        refine r1_ 4 31 HT (fun K_ hK_ => ?_); refine kc HF g0 Try.func56 (by kernel_rfl) ?_; (with_reducible refine (hcf.run _ _ _ _ (by omega) (by omega) (by omega) (by omega)).mono ?_); rintro e w1 ⟨rfl, hb_⟩; refine ⟨_, rfl, ?_⟩; replace HM := HM.call hb_; clear HF a; intro a HF; refine hK_ _ _ (HM.sub (by repeat (first | exact List.Sublist.refl _ | exact List.nil_sublist _ | apply List.Sublist.cons_cons | apply List.Sublist.cons)) (by repeat (first | exact List.Sublist.refl _ | exact List.nil_sublist _ | apply List.Sublist.cons_cons | apply List.Sublist.cons))) ?_; clear hK_ K_ HS; intro HS
        refine r1_ 5 63 HT (fun K_ hK_ => ?_); refine kl (lzC1 _ _ _ _) HF HM ?_; clear HF HM a; intro Al cl_ a w HF HM; refine hK_ _ _ (HM.sub (by repeat (first | exact List.Sublist.refl _ | exact List.nil_sublist _ | apply List.Sublist.cons_cons | apply List.Sublist.cons)) (by repeat (first | exact List.Sublist.refl _ | exact List.nil_sublist _ | apply List.Sublist.cons_cons | apply List.Sublist.cons))) ?_; clear hK_ K_ HS; intro HS
        refine r1_ 6 127 HT (fun K_ hK_ => ?_); refine kar apC HF HM ?_ (hl := by (simp only [List.length_append, List.length_cons, List.length_nil]; omega)); clear HF HM a; intro Al cl_ a w HF HM; refine hK_ _ _ (HM.sub (by repeat (first | exact List.Sublist.refl _ | exact List.nil_sublist _ | apply List.Sublist.cons_cons | apply List.Sublist.cons)) (by repeat (first | exact List.Sublist.refl _ | exact List.nil_sublist _ | apply List.Sublist.cons_cons | apply List.Sublist.cons))) ?_; clear hK_ K_ HS; intro HS
        refine pA 7 255 HT rfl HF ?_; clear HF a; intro a HF
        refine r1l_ 8 511 HT (fun K_ hK_ => ?_); refine ks HF HM ?_; clear HM; intro w HM; refine hK_ _ _ ?_; clear hK_ K_ HS
        refine dnB HT ?_
        refine rl ?_
        (repeat (first | (refine sA HF ?_; clear HF a; intro a HF) | (refine sB HF HM ?_; clear HF a; intro a HF) | (refine aA HF HM ?_; clear HF HM a; intro g a w HF HM) | (refine so HF HM ?_; clear HM; intro w HM) | refine gy HF ?_ | ((first | refine gn HF ?_ | refine gu HF ?_); clear HF a; intro a HF) | refine rn ?_ | refine rg ?_))
        refine nl (hK2 m _ _ (Nat.lt_succ_self m) ⟨_, _, _, _, acc ++ [cf ((nxt z').tmod 6) ((nxt (nxt z')).tmod (side + 1)) ((nxt (nxt (nxt z'))).tmod (side + 1))], _, _, (nxt (nxt (nxt z'))), _, HF.sub, HM.sub (by repeat (first | exact List.Sublist.refl _ | exact List.nil_sublist _ | apply List.Sublist.cons_cons | apply List.Sublist.cons)) (by repeat (first | exact List.Sublist.refl _ | exact List.nil_sublist _ | apply List.Sublist.cons_cons | apply List.Sublist.cons)), ?_, ?_, ?_⟩)
        · rw [← e1]; simp [mkL, hq]
        · simp only [List.length_append, List.length_cons, List.length_nil]; omega
        · omega
      · refine sq (rg ?_)
        (repeat (first | (refine sA HF ?_; clear HF a; intro a HF) | (refine sB HF HM ?_; clear HF a; intro a HF) | (refine aA HF HM ?_; clear HF HM a; intro g a w HF HM) | (refine so HF HM ?_; clear HM; intro w HM) | refine gy HF ?_ | ((first | refine gn HF ?_ | refine gu HF ?_); clear HF a; intro a HF) | refine rn ?_ | refine rg ?_))
        refine cF HF (sk ?_)
        refine dw2l (n := 9) (ds := [8]) (bs' := [⟨_, 48, [.int .i64 _, .int .i64 _, .int .i64 _, .int .i64 _]⟩, ⟨_, 31, [.int .i64 side, .slice A acc.length c]⟩, ⟨_, 41, [.int .i64 px, .int .i64 py]⟩]) (rs' := []) imk.tab11 imk.bits11 HM (by repeat (first | exact List.Sublist.refl _ | exact List.nil_sublist _ | apply List.Sublist.cons_cons | apply List.Sublist.cons)) (by repeat (first | exact List.Sublist.refl _ | exact List.nil_sublist _ | apply List.Sublist.cons_cons | apply List.Sublist.cons)) ?_; clear HM; intro w HM HT HW; have HS := HM.sub (bs' := [⟨_, 48, [.int .i64 _, .int .i64 _, .int .i64 _, .int .i64 _]⟩, ⟨_, 31, [.int .i64 side, .slice A acc.length c]⟩, ⟨_, 41, [.int .i64 px, .int .i64 py]⟩]) (rs' := []) (by repeat (first | exact List.Sublist.refl _ | exact List.nil_sublist _ | apply List.Sublist.cons_cons | apply List.Sublist.cons)) (by repeat (first | exact List.Sublist.refl _ | exact List.nil_sublist _ | apply List.Sublist.cons_cons | apply List.Sublist.cons))
        refine pA 0 1 HT rfl HF ?_; clear HF a; intro a HF
        refine pB 1 3 HT rfl HW HF HS ?_; clear HF a; intro a HF
        refine pB 2 7 HT rfl HW HF HS ?_; clear HF a; intro a HF
        refine pB 3 15 HT rfl HW HF HS ?_; clear HF a; intro a HF
        refine r1_ 4 31 HT (fun K_ hK_ => ?_); refine kc HF g0 Try.func56 (by kernel_rfl) ?_; (with_reducible refine (hcf.run _ _ _ _ (by omega) (by omega) (by omega) (by omega)).mono ?_); rintro e w1 ⟨rfl, hb_⟩; refine ⟨_, rfl, ?_⟩; replace HM := HM.call hb_; clear HF a; intro a HF; refine hK_ _ _ (HM.sub (by repeat (first | exact List.Sublist.refl _ | exact List.nil_sublist _ | apply List.Sublist.cons_cons | apply List.Sublist.cons)) (by repeat (first | exact List.Sublist.refl _ | exact List.nil_sublist _ | apply List.Sublist.cons_cons | apply List.Sublist.cons))) ?_; clear hK_ K_ HS; intro HS
        refine r1_ 5 63 HT (fun K_ hK_ => ?_); refine kl (lzC1 _ _ _ _) HF HM ?_; clear HF HM a; intro Al cl_ a w HF HM; refine hK_ _ _ (HM.sub (by repeat (first | exact List.Sublist.refl _ | exact List.nil_sublist _ | apply List.Sublist.cons_cons | apply List.Sublist.cons)) (by repeat (first | exact List.Sublist.refl _ | exact List.nil_sublist _ | apply List.Sublist.cons_cons | apply List.Sublist.cons))) ?_; clear hK_ K_ HS; intro HS
        refine r1_ 6 127 HT (fun K_ hK_ => ?_); refine kar apC HF HM ?_ (hl := by (simp only [List.length_append, List.length_cons, List.length_nil]; omega)); clear HF HM a; intro Al cl_ a w HF HM; refine hK_ _ _ (HM.sub (by repeat (first | exact List.Sublist.refl _ | exact List.nil_sublist _ | apply List.Sublist.cons_cons | apply List.Sublist.cons)) (by repeat (first | exact List.Sublist.refl _ | exact List.nil_sublist _ | apply List.Sublist.cons_cons | apply List.Sublist.cons))) ?_; clear hK_ K_ HS; intro HS
        refine pA 7 255 HT rfl HF ?_; clear HF a; intro a HF
        refine r1l_ 8 511 HT (fun K_ hK_ => ?_); refine ks HF HM ?_; clear HM; intro w HM; refine hK_ _ _ ?_; clear hK_ K_ HS
        refine dnB HT ?_
        refine rl ?_
        (repeat (first | (refine sA HF ?_; clear HF a; intro a HF) | (refine sB HF HM ?_; clear HF a; intro a HF) | (refine aA HF HM ?_; clear HF HM a; intro g a w HF HM) | (refine so HF HM ?_; clear HM; intro w HM) | refine gy HF ?_ | ((first | refine gn HF ?_ | refine gu HF ?_); clear HF a; intro a HF) | refine rn ?_ | refine rg ?_))
        refine nl (hK2 m _ _ (Nat.lt_succ_self m) ⟨_, _, _, _, acc ++ [cf ((nxt z').tmod 6) 0 0], _, _, (nxt z'), _, HF.sub, HM.sub (by repeat (first | exact List.Sublist.refl _ | exact List.nil_sublist _ | apply List.Sublist.cons_cons | apply List.Sublist.cons)) (by repeat (first | exact List.Sublist.refl _ | exact List.nil_sublist _ | apply List.Sublist.cons_cons | apply List.Sublist.cons)), ?_, ?_, ?_⟩)
        · rw [← e1]; simp [mkL, hq]
        · simp only [List.length_append, List.length_cons, List.length_nil]; omega
        · omega
  · rintro a w ⟨m, rfl, g5, g8, g10, g11, acc, A, c, z', i, HF, HM, e1, e2, e3, e4, e5⟩
    obtain rfl : acc = mkL cf side n.toNat z := by simpa [mkL] using e1
    refine rg ?_
    (repeat (first | (refine sA HF ?_; clear HF a; intro a HF) | (refine sB HF HM ?_; clear HF a; intro a HF) | (refine aA HF HM ?_; clear HF HM a; intro g a w HF HM) | (refine so HF HM ?_; clear HM; intro w HM) | refine gy HF ?_ | ((first | refine gn HF ?_ | refine gu HF ?_); clear HF a; intro a HF) | refine rn ?_ | refine rg ?_))
    refine rt ?_; (repeat (first | refine tr ?_ | refine tb ?_)); exact rL HF rfl (vc st31 HF HM (vt HF .nil)) ⟨A, c, rfl, HM.R_ 0, HM.bel⟩
end Go.Proofs.Ytoeclfihlhmnpaa.Hd
