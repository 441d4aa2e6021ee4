-- thin
-- short
-- compact
import Derived.Test.YtphkphjddkjabaaXA
import Derived.Test.YtphkphjddkjabaaX0
namespace Go.Proofs.Ytphkphjddkjabaa.X
open Go.RowKit Go.Proofs.Ytphkphjddkjabaa.XW Go.Proofs.YtphkphjddkjabaaW.PrintWords Go.Proofs.YtphkphjddkjabaaW.PrintLast Go.Proofs.YtphkphjddkjabaaW.PrintMore
attribute [local go_sem] max2_int min2_int max_two min_two max_three min_three max_four min_four   -- for this text's walks alone
set_option linter.unusedVariables false
set_option linter.unusedSimpArgs false

def laws_szPegS.f (l0 : List (S_laws_Peg)) (a1 : Int) : Option (Int) := if (wrap64 (a1 - (l0.length : Int))) < 0 then (some (-1)) else (some (wrap64 (a1 - (l0.length : Int))))
set_option maxHeartbeats 8000000 in
set_option maxRecDepth 100000 in
theorem laws_szPegS.calls (A0 : Option Addr) (c0 : Nat) (l0 : List (S_laws_Peg)) (a1 : Int) (r : Int) (w : World) (hr0 : Kd.C kd_laws_Peg w A0 l0.length l0) (hc0 : l0.length ≤ c0) (h : laws_szPegS.f l0 a1 = some r) :
  Calls Try.prog 4 #[.slice A0 l0.length c0, .int .i64 a1] w fun e w' => e = .returned (.int .i64 r) ∧ Drawn0 w w' := by
 have HR0 := aM hr0; have HC0 := aM hc0; clear hr0 hc0
 unfold laws_szPegS.f at h; have H := h; clear h
 by_cases c3 : (wrap64 (a1 - (l0.length : Int))) < 0
 ·rw [if_pos c3] at H; have c3b0 := dE c3; clear c3; obtain rfl := Option.some.inj H
  go_enter Try.func4, Try.ntmps4
  go_wp2
  go_ret
  exact ⟨eQ, dQ⟩
 ·rw [if_neg c3] at H; have c3b0 := decide_eq_false c3; clear c3; obtain rfl := Option.some.inj H
  go_enter Try.func4, Try.ntmps4
  go_wp2
  go_ret
  exact ⟨eQ, dQ⟩

def spec_l1In.f (a0 : Int) (a1 : Int) (a2 : Int) : Option (Bool) := if a0 ≥ a1 then (some (decide (a0 ≤ a2))) else (some false)
set_option maxHeartbeats 8000000 in
set_option maxRecDepth 100000 in
theorem spec_l1In.calls (a0 : Int) (a1 : Int) (a2 : Int) (r : Bool) (w : World) (h : spec_l1In.f a0 a1 a2 = some r) :
  Calls Try.prog 22 #[.int .i64 a0, .int .i64 a1, .int .i64 a2] w fun e w' => e = .returned (.bool r) ∧ Drawn0 w w' := by
 unfold spec_l1In.f at h; have H := h; clear h
 by_cases c4 : a0 ≥ a1
 ·rw [if_pos c4] at H; have c4b0 := dE c4; clear c4; obtain rfl := Option.some.inj H
  go_enter Try.func22, Try.ntmps22
  go_wp2
  go_ret
  exact ⟨eQ, dQ⟩
 ·rw [if_neg c4] at H; have c4b0 := decide_eq_false c4; clear c4; obtain rfl := Option.some.inj H
  go_enter Try.func22, Try.ntmps22
  go_wp2
  go_ret
  exact ⟨eQ, dQ⟩

def spec_pgIs.f (a0_0 : Int) (a0_1 : Int) : Option (Bool) := (spec_l1In.f a0_0 (-40) 40).bind fun t102 => (if t102 = true then ((spec_l1In.f a0_1 (-40) 40).bind fun t103 => (some t103)) else (some false))
set_option maxHeartbeats 8000000 in
set_option maxRecDepth 100000 in
theorem spec_pgIs.calls (a0_0 : Int) (a0_1 : Int) (r : Bool) (w : World) (h : spec_pgIs.f a0_0 a0_1 = some r) :
  Calls Try.prog 23 #[.agg #[.int .i64 a0_0, .int .i64 a0_1]] w fun e w' => e = .returned (.bool r) ∧ Below w.heap.size w w' := by
 have hu38 := Try.underlying38; have HB := aM (Below.refl w.heap.size w)
 unfold spec_pgIs.f at h; have H := h; clear h
 replace H := bS H; obtain ⟨t102, A2, H⟩ := H
 by_cases c3 : t102 = true
 ·subst c3; replace H := iT H; replace H := bS H; obtain ⟨t103, A4, H⟩ := H; obtain rfl := Option.some.inj H
  go_enter Try.func23, Try.ntmps23
  go_wp2_with (first | ((with_reducible refine gate_dst (N := 1) rfl ?_); refine bV 1 (cs := #[.int .i64 a0_0, .int .i64 a0_1]) (t := 38) rfl rfl (by first | (go_simp; done) | (go_simp; rfl)) ?_; intro gb101 hg w5 hbox hb; have BK101 := hbox; have GW101 := gZ HB hg; have GE101 := gZ HB hg; replace HB := tB HB hb; clear hb hbox hg; have hcz6_0 := vZ0 BK101; have hcz6_1 := vZ1 BK101; have hfz6_0 := kF BK101.out 0; have hfz6_1 := kF BK101.out 1) | ((with_reducible refine gC (f := 22) rfl ?_); refine goesL_ (some 5) rfl rfl Try.func22 kR rfl #[.int .i64 a0_0, .int .i64 (-40), .int .i64 40] rfl sQ ?_; (with_reducible refine (spec_l1In.calls a0_0 (-40) 40 true _ A2.out).mono ?_); rintro e w' ⟨rfl, ⟨nd, rfl⟩⟩; refine ⟨_, rfl, ?_⟩) | (go_at_call 22; (with_reducible refine (spec_l1In.calls a0_1 (-40) 40 t103 _ A4.out).mono ?_); rintro e w' ⟨rfl, ⟨nd, rfl⟩⟩))
  go_ret
  exact ⟨wQ, bE⟩
 ·replace c3 := Bool.eq_false_iff.mpr c3; subst c3; replace H := iF H; obtain rfl := Option.some.inj H
  go_enter Try.func23, Try.ntmps23
  go_wp2_with (first | ((with_reducible refine gate_dst (N := 1) rfl ?_); refine bV 1 (cs := #[.int .i64 a0_0, .int .i64 a0_1]) (t := 38) rfl rfl (by first | (go_simp; done) | (go_simp; rfl)) ?_; intro gb101 hg w7 hbox hb; have BK101 := hbox; have GW101 := gZ HB hg; have GE101 := gZ HB hg; replace HB := tB HB hb; clear hb hbox hg; have hcz8_0 := vZ0 BK101; have hcz8_1 := vZ1 BK101; have hfz8_0 := kF BK101.out 0; have hfz8_1 := kF BK101.out 1) | ((with_reducible refine gC (f := 22) rfl ?_); refine goesL_ (some 5) rfl rfl Try.func22 kR rfl #[.int .i64 a0_0, .int .i64 (-40), .int .i64 40] rfl sQ ?_; (with_reducible refine (spec_l1In.calls a0_0 (-40) 40 false _ A2.out).mono ?_); rintro e w' ⟨rfl, ⟨nd, rfl⟩⟩; refine ⟨_, rfl, ?_⟩))
  go_ret
  exact ⟨wQ, bE⟩

def spec_pgTurn.f (a0_0 : Int) (a0_1 : Int) (a1_0 : Int) (a1_1 : Int) (a2_0 : Int) (a2_1 : Int) : Option (Int) := some (wrap64 ((wrap64 ((wrap64 (a1_0 - a0_0)) * (wrap64 (a2_1 - a0_1)))) - (wrap64 ((wrap64 (a1_1 - a0_1)) * (wrap64 (a2_0 - a0_0))))))
set_option maxHeartbeats 8000000 in
set_option maxRecDepth 100000 in
theorem spec_pgTurn.calls (a0_0 : Int) (a0_1 : Int) (a1_0 : Int) (a1_1 : Int) (a2_0 : Int) (a2_1 : Int) (r : Int) (w : World) (h : spec_pgTurn.f a0_0 a0_1 a1_0 a1_1 a2_0 a2_1 = some r) :
  Calls Try.prog 24 #[.agg #[.int .i64 a0_0, .int .i64 a0_1], .agg #[.int .i64 a1_0, .int .i64 a1_1], .agg #[.int .i64 a2_0, .int .i64 a2_1]] w fun e w' => e = .returned (.int .i64 r) ∧ Below w.heap.size w w' := by
 have hu38 := Try.underlying38; have HB := aM (Below.refl w.heap.size w)
 unfold spec_pgTurn.f at h; have H := h; clear h
 obtain rfl := Option.some.inj H
 go_enter Try.func24, Try.ntmps24
 go_wp2_with (first | ((with_reducible refine gate_dst (N := 3) rfl ?_); refine bV 3 (cs := #[.int .i64 a0_0, .int .i64 a0_1]) (t := 38) rfl rfl (by first | (go_simp; done) | (go_simp; rfl)) ?_; intro gb104 hg w4 hbox hb; have BK104 := hbox; have GW104 := gZ HB hg; have GE104 := gZ HB hg; replace HB := tB HB hb; clear hb hbox hg) | ((with_reducible refine gate_dst (N := 4) rfl ?_); refine bV 4 (cs := #[.int .i64 a1_0, .int .i64 a1_1]) (t := 38) rfl rfl (by first | (go_simp; done) | (go_simp; rfl)) ?_; intro gb105 hg w5 hbox hb; have BK105 := hbox; have GW105 := gZ HB hg; have GE105 := gZ HB hg; have NB104_105 := nG BK104 hg; have NB105_104 := nH BK104 hg; replace BK104 := bB BK104 hb; replace HB := tB HB hb; clear hb hbox hg) | ((with_reducible refine gate_dst (N := 5) rfl ?_); refine bV 5 (cs := #[.int .i64 a2_0, .int .i64 a2_1]) (t := 38) rfl rfl (by first | (go_simp; done) | (go_simp; rfl)) ?_; intro gb106 hg w6 hbox hb; have BK106 := hbox; have GW106 := gZ HB hg; have GE106 := gZ HB hg; have NB104_106 := nG BK104 hg; have NB106_104 := nH BK104 hg; have NB105_106 := nG BK105 hg; have NB106_105 := nH BK105 hg; replace BK104 := bB BK104 hb; replace BK105 := bB BK105 hb; replace HB := tB HB hb; clear hb hbox hg; have hnb7 := NB105_104.out; have hnc7 := NB104_105.out; have hnb8 := NB105_106.out; have hnc8 := NB106_105.out; have hcz9_0 := vZ0 BK105; have hcz9_1 := vZ1 BK105; have hfz9_0 := kF BK105.out 0; have hfz9_1 := kF BK105.out 1; have hnb10 := NB104_106.out; have hnc10 := NB106_104.out; have hcz11_0 := vZ0 BK104; have hcz11_1 := vZ1 BK104; have hfz11_0 := kF BK104.out 0; have hfz11_1 := kF BK104.out 1; have hcz12_0 := vZ0 BK106; have hcz12_1 := vZ1 BK106; have hfz12_0 := kF BK106.out 0; have hfz12_1 := kF BK106.out 1))
 go_ret
 exact ⟨wQ, bE⟩

def spec_pgOn.f (a0_0 : Int) (a0_1 : Int) (a1_0 : Int) (a1_1 : Int) (a2_0 : Int) (a2_1 : Int) : Option (Bool) := (spec_pgTurn.f a0_0 a0_1 a1_0 a1_1 a2_0 a2_1).bind fun t110 => (if t110 = 0 then (if (wrap64 ((wrap64 (a0_0 - a2_0)) * (wrap64 (a1_0 - a2_0)))) ≤ 0 then (some (decide ((wrap64 ((wrap64 (a0_1 - a2_1)) * (wrap64 (a1_1 - a2_1)))) ≤ 0))) else (some false)) else (some false))
set_option maxHeartbeats 8000000 in
set_option maxRecDepth 100000 in
theorem spec_pgOn.calls (a0_0 : Int) (a0_1 : Int) (a1_0 : Int) (a1_1 : Int) (a2_0 : Int) (a2_1 : Int) (r : Bool) (w : World) (h : spec_pgOn.f a0_0 a0_1 a1_0 a1_1 a2_0 a2_1 = some r) :
  Calls Try.prog 40 #[.agg #[.int .i64 a0_0, .int .i64 a0_1], .agg #[.int .i64 a1_0, .int .i64 a1_1], .agg #[.int .i64 a2_0, .int .i64 a2_1]] w fun e w' => e = .returned (.bool r) ∧ Below w.heap.size w w' := by
 have hu38 := Try.underlying38; have HB := aM (Below.refl w.heap.size w)
 unfold spec_pgOn.f at h; have H := h; clear h
 replace H := bS H; obtain ⟨t110, A4, H⟩ := H
 by_cases c5 : t110 = 0
 ·rw [if_pos c5] at H; have c5b0 : (t110 == 0) = true := beq_iff_eq.mpr c5; have c5b1 : (t110 != 0) = false := bne_eq_false_iff_eq.mpr c5; clear c5
  by_cases c6 : (wrap64 ((wrap64 (a0_0 - a2_0)) * (wrap64 (a1_0 - a2_0)))) ≤ 0
  ·rw [if_pos c6] at H; have c6b0 := dE c6; clear c6; obtain rfl := Option.some.inj H
   go_enter Try.func40, Try.ntmps40
   go_wp2_with (first | ((with_reducible refine gate_dst (N := 3) rfl ?_); refine bV 3 (cs := #[.int .i64 a0_0, .int .i64 a0_1]) (t := 38) rfl rfl (by first | (go_simp; done) | (go_simp; rfl)) ?_; intro gb107 hg w7 hbox hb; have BK107 := hbox; have GW107 := gZ HB hg; have GE107 := gZ HB hg; replace HB := tB HB hb; clear hb hbox hg) | ((with_reducible refine gate_dst (N := 4) rfl ?_); refine bV 4 (cs := #[.int .i64 a1_0, .int .i64 a1_1]) (t := 38) rfl rfl (by first | (go_simp; done) | (go_simp; rfl)) ?_; intro gb108 hg w8 hbox hb; have BK108 := hbox; have GW108 := gZ HB hg; have GE108 := gZ HB hg; have NB107_108 := nG BK107 hg; have NB108_107 := nH BK107 hg; replace BK107 := bB BK107 hb; replace HB := tB HB hb; clear hb hbox hg) | ((with_reducible refine gate_dst (N := 5) rfl ?_); refine bV 5 (cs := #[.int .i64 a2_0, .int .i64 a2_1]) (t := 38) rfl rfl (by first | (go_simp; done) | (go_simp; rfl)) ?_; intro gb109 hg w9 hbox hb; have BK109 := hbox; have GW109 := gZ HB hg; have GE109 := gZ HB hg; have NB107_109 := nG BK107 hg; have NB109_107 := nH BK107 hg; have NB108_109 := nG BK108 hg; have NB109_108 := nH BK108 hg; replace BK107 := bB BK107 hb; replace BK108 := bB BK108 hb; replace HB := tB HB hb; clear hb hbox hg; have hnb10 := NB107_108.out; have hnc10 := NB108_107.out; have hnb11 := NB107_109.out; have hnc11 := NB109_107.out; have hcz12_0 := vZ0 BK107; have hcz12_1 := vZ1 BK107; have hfz12_0 := kF BK107.out 0; have hfz12_1 := kF BK107.out 1; have hnb13 := NB108_109.out; have hnc13 := NB109_108.out; have hcz14_0 := vZ0 BK108; have hcz14_1 := vZ1 BK108; have hfz14_0 := kF BK108.out 0; have hfz14_1 := kF BK108.out 1; have hcz15_0 := vZ0 BK109; have hcz15_1 := vZ1 BK109; have hfz15_0 := kF BK109.out 0; have hfz15_1 := kF BK109.out 1) | ((with_reducible refine gC (f := 24) rfl ?_); refine goesL_ (some 10) rfl rfl Try.func24 kR rfl #[.agg #[.int .i64 a0_0, .int .i64 a0_1], .agg #[.int .i64 a1_0, .int .i64 a1_1], .agg #[.int .i64 a2_0, .int .i64 a2_1]] rfl sQ ?_; (with_reducible refine (spec_pgTurn.calls a0_0 a0_1 a1_0 a1_1 a2_0 a2_1 t110 _ A4.out).mono ?_); rintro e w16 ⟨rfl, hb⟩; refine ⟨_, rfl, ?_⟩; replace BK107 := bB BK107 hb; replace BK108 := bB BK108 hb; replace BK109 := bB BK109 hb; replace HB := tB HB hb; (try clear hb); (try clear hb2); (try clear hk); (try clear hi); have hcz17_0 := vZ0 BK107; have hcz17_1 := vZ1 BK107; have hfz17_0 := kF BK107.out 0; have hfz17_1 := kF BK107.out 1; have hcz18_0 := vZ0 BK109; have hcz18_1 := vZ1 BK109; have hfz18_0 := kF BK109.out 0; have hfz18_1 := kF BK109.out 1; have hcz19_0 := vZ0 BK108; have hcz19_1 := vZ1 BK108; have hfz19_0 := kF BK108.out 0; have hfz19_1 := kF BK108.out 1))
   go_ret
   exact ⟨wQ, bE⟩
  ·rw [if_neg c6] at H; have c6b0 := decide_eq_false c6; clear c6; obtain rfl := Option.some.inj H
   go_enter Try.func40, Try.ntmps40
   go_wp2_with (first | ((with_reducible refine gate_dst (N := 3) rfl ?_); refine bV 3 (cs := #[.int .i64 a0_0, .int .i64 a0_1]) (t := 38) rfl rfl (by first | (go_simp; done) | (go_simp; rfl)) ?_; intro gb107 hg w20 hbox hb; have BK107 := hbox; have GW107 := gZ HB hg; have GE107 := gZ HB hg; replace HB := tB HB hb; clear hb hbox hg) | ((with_reducible refine gate_dst (N := 4) rfl ?_); refine bV 4 (cs := #[.int .i64 a1_0, .int .i64 a1_1]) (t := 38) rfl rfl (by first | (go_simp; done) | (go_simp; rfl)) ?_; intro gb108 hg w21 hbox hb; have BK108 := hbox; have GW108 := gZ HB hg; have GE108 := gZ HB hg; have NB107_108 := nG BK107 hg; have NB108_107 := nH BK107 hg; replace BK107 := bB BK107 hb; replace HB := tB HB hb; clear hb hbox hg) | ((with_reducible refine gate_dst (N := 5) rfl ?_); refine bV 5 (cs := #[.int .i64 a2_0, .int .i64 a2_1]) (t := 38) rfl rfl (by first | (go_simp; done) | (go_simp; rfl)) ?_; intro gb109 hg w22 hbox hb; have BK109 := hbox; have GW109 := gZ HB hg; have GE109 := gZ HB hg; have NB107_109 := nG BK107 hg; have NB109_107 := nH BK107 hg; have NB108_109 := nG BK108 hg; have NB109_108 := nH BK108 hg; replace BK107 := bB BK107 hb; replace BK108 := bB BK108 hb; replace HB := tB HB hb; clear hb hbox hg; have hnb23 := NB107_108.out; have hnc23 := NB108_107.out; have hnb24 := NB107_109.out; have hnc24 := NB109_107.out; have hcz25_0 := vZ0 BK107; have hcz25_1 := vZ1 BK107; have hfz25_0 := kF BK107.out 0; have hfz25_1 := kF BK107.out 1; have hnb26 := NB108_109.out; have hnc26 := NB109_108.out; have hcz27_0 := vZ0 BK108; have hcz27_1 := vZ1 BK108; have hfz27_0 := kF BK108.out 0; have hfz27_1 := kF BK108.out 1; have hcz28_0 := vZ0 BK109; have hcz28_1 := vZ1 BK109; have hfz28_0 := kF BK109.out 0; have hfz28_1 := kF BK109.out 1) | ((with_reducible refine gC (f := 24) rfl ?_); refine goesL_ (some 10) rfl rfl Try.func24 kR rfl #[.agg #[.int .i64 a0_0, .int .i64 a0_1], .agg #[.int .i64 a1_0, .int .i64 a1_1], .agg #[.int .i64 a2_0, .int .i64 a2_1]] rfl sQ ?_; (with_reducible refine (spec_pgTurn.calls a0_0 a0_1 a1_0 a1_1 a2_0 a2_1 t110 _ A4.out).mono ?_); rintro e w29 ⟨rfl, hb⟩; refine ⟨_, rfl, ?_⟩; replace BK107 := bB BK107 hb; replace BK108 := bB BK108 hb; replace BK109 := bB BK109 hb; replace HB := tB HB hb; (try clear hb); (try clear hb2); (try clear hk); (try clear hi); have hcz30_0 := vZ0 BK107; have hcz30_1 := vZ1 BK107; have hfz30_0 := kF BK107.out 0; have hfz30_1 := kF BK107.out 1; have hcz31_0 := vZ0 BK109; have hcz31_1 := vZ1 BK109; have hfz31_0 := kF BK109.out 0; have hfz31_1 := kF BK109.out 1; have hcz32_0 := vZ0 BK108; have hcz32_1 := vZ1 BK108; have hfz32_0 := kF BK108.out 0; have hfz32_1 := kF BK108.out 1))
   go_ret
   exact ⟨wQ, bE⟩
 ·rw [if_neg c5] at H; have c5b0 : (t110 == 0) = false := beq_eq_false_iff_ne.mpr c5; have c5b1 : (t110 != 0) = true := bne_iff_ne.mpr c5; obtain rfl := Option.some.inj H
  go_enter Try.func40, Try.ntmps40
  go_wp2_with (first | ((with_reducible refine gate_dst (N := 3) rfl ?_); refine bV 3 (cs := #[.int .i64 a0_0, .int .i64 a0_1]) (t := 38) rfl rfl (by first | (go_simp; done) | (go_simp; rfl)) ?_; intro gb107 hg w33 hbox hb; have BK107 := hbox; have GW107 := gZ HB hg; have GE107 := gZ HB hg; replace HB := tB HB hb; clear hb hbox hg) | ((with_reducible refine gate_dst (N := 4) rfl ?_); refine bV 4 (cs := #[.int .i64 a1_0, .int .i64 a1_1]) (t := 38) rfl rfl (by first | (go_simp; done) | (go_simp; rfl)) ?_; intro gb108 hg w34 hbox hb; have BK108 := hbox; have GW108 := gZ HB hg; have GE108 := gZ HB hg; have NB107_108 := nG BK107 hg; have NB108_107 := nH BK107 hg; replace BK107 := bB BK107 hb; replace HB := tB HB hb; clear hb hbox hg) | ((with_reducible refine gate_dst (N := 5) rfl ?_); refine bV 5 (cs := #[.int .i64 a2_0, .int .i64 a2_1]) (t := 38) rfl rfl (by first | (go_simp; done) | (go_simp; rfl)) ?_; intro gb109 hg w35 hbox hb; have BK109 := hbox; have GW109 := gZ HB hg; have GE109 := gZ HB hg; have NB107_109 := nG BK107 hg; have NB109_107 := nH BK107 hg; have NB108_109 := nG BK108 hg; have NB109_108 := nH BK108 hg; replace BK107 := bB BK107 hb; replace BK108 := bB BK108 hb; replace HB := tB HB hb; clear hb hbox hg; have hnb36 := NB107_108.out; have hnc36 := NB108_107.out; have hnb37 := NB107_109.out; have hnc37 := NB109_107.out; have hcz38_0 := vZ0 BK107; have hcz38_1 := vZ1 BK107; have hfz38_0 := kF BK107.out 0; have hfz38_1 := kF BK107.out 1; have hnb39 := NB108_109.out; have hnc39 := NB109_108.out; have hcz40_0 := vZ0 BK108; have hcz40_1 := vZ1 BK108; have hfz40_0 := kF BK108.out 0; have hfz40_1 := kF BK108.out 1; have hcz41_0 := vZ0 BK109; have hcz41_1 := vZ1 BK109; have hfz41_0 := kF BK109.out 0; have hfz41_1 := kF BK109.out 1) | ((with_reducible refine gC (f := 24) rfl ?_); refine goesL_ (some 10) rfl rfl Try.func24 kR rfl #[.agg #[.int .i64 a0_0, .int .i64 a0_1], .agg #[.int .i64 a1_0, .int .i64 a1_1], .agg #[.int .i64 a2_0, .int .i64 a2_1]] rfl sQ ?_; (with_reducible refine (spec_pgTurn.calls a0_0 a0_1 a1_0 a1_1 a2_0 a2_1 t110 _ A4.out).mono ?_); rintro e w42 ⟨rfl, hb⟩; refine ⟨_, rfl, ?_⟩; replace BK107 := bB BK107 hb; replace BK108 := bB BK108 hb; replace BK109 := bB BK109 hb; replace HB := tB HB hb; (try clear hb); (try clear hb2); (try clear hk); (try clear hi)))
  go_ret
  exact ⟨wQ, bE⟩

def spec_l1Sign.f (a0 : Int) : Option (Int) := if a0 > 0 then (some 1) else (if a0 < 0 then (some (-1)) else (some 0))
set_option maxHeartbeats 8000000 in
set_option maxRecDepth 100000 in
theorem spec_l1Sign.calls (a0 : Int) (r : Int) (w : World) (h : spec_l1Sign.f a0 = some r) :
  Calls Try.prog 41 #[.int .i64 a0] w fun e w' => e = .returned (.int .i64 r) ∧ Drawn0 w w' := by
 unfold spec_l1Sign.f at h; have H := h; clear h
 by_cases c2 : a0 > 0
 ·rw [if_pos c2] at H; have c2b0 := dE c2; clear c2; obtain rfl := Option.some.inj H
  go_enter Try.func41, Try.ntmps41
  go_wp2
  go_ret
  exact ⟨eQ, dQ⟩
 ·rw [if_neg c2] at H; have c2b0 := decide_eq_false c2; clear c2
  by_cases c3 : a0 < 0
  ·rw [if_pos c3] at H; have c3b0 := dE c3; clear c3; obtain rfl := Option.some.inj H
   go_enter Try.func41, Try.ntmps41
   go_wp2
   go_ret
   exact ⟨eQ, dQ⟩
  ·rw [if_neg c3] at H; have c3b0 := decide_eq_false c3; clear c3; obtain rfl := Option.some.inj H
   go_enter Try.func41, Try.ntmps41
   go_wp2
   go_ret
   exact ⟨eQ, dQ⟩

end Go.Proofs.Ytphkphjddkjabaa.X
