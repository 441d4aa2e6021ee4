-- thin
-- short
-- compact
import Derived.Test.YtfihohongkfibaaXA
import Derived.Test.YtfihohongkfibaaX0
import Derived.Test.YtfihohongkfibaaX8
namespace Go.Proofs.Ytfihohongkfibaa.X
open Go.RowKit Go.Proofs.Ytfihohongkfibaa.XW Go.Proofs.YtfihohongkfibaaW.PrintWords Go.Proofs.YtfihohongkfibaaW.PrintLast Go.Proofs.YtfihohongkfibaaW.PrintMore
attribute [local go_sem] max2_int min2_int max_two min_two max_three min_three max_four min_four   -- for this text's walks alone
set_option linter.unusedVariables false
set_option linter.unusedSimpArgs false

def impl_turn.f (a0_0 : Int) (a0_1 : Int) (a1_0 : Int) (a1_1 : Int) (a2_0 : Int) (a2_1 : Int) : Option (Int) := (impl_Peg_less.f a1_0 a1_1 a0_0 a0_1).bind fun bt209 => ((impl_Peg_less.f a2_0 a2_1 a0_0 a0_1).bind fun bt211 => ((impl_cross.f bt209.1 bt209.2 bt211.1 bt211.2).bind fun t213 => (some t213)))
def impl_turn.T1 : Bool × List (List Nat × List Nat) := (true, [([], []), ([], []), ([0, 1], [0, 1]), ([], []), ([], []), ([3, 4, 2], [3, 4]), ([2, 5, 5], [2, 5]), ([6, 6, 0, 1, 2, 3, 4, 5, 6], [6])])
def impl_turn.B1 : List Nat := [0, 0, 3, 0, 0, 31, 63, 127]
theorem impl_turn.tab1 : rtab .any (opsOf Try.f119 1) = impl_turn.T1 := by kernel_rfl
theorem impl_turn.bits1 : waitsOk impl_turn.T1.2 impl_turn.B1 = true := by kernel_rfl
set_option maxHeartbeats 8000000 in
set_option maxRecDepth 100000 in
theorem impl_turn.calls (a0_0 : Int) (a0_1 : Int) (a1_0 : Int) (a1_1 : Int) (a2_0 : Int) (a2_1 : Int) (r : Int) (w : World) (h : impl_turn.f a0_0 a0_1 a1_0 a1_1 a2_0 a2_1 = some r) :
  Calls Try.prog 119 #[.agg #[.int .i64 a0_0, .int .i64 a0_1], .agg #[.int .i64 a1_0, .int .i64 a1_1], .agg #[.int .i64 a2_0, .int .i64 a2_1]] w fun e w' => e = .returned (.int .i64 r) ∧ Below w.heap.size w w' := by
 have hu50 := Try.underlying50; have HB := aM (Below.refl w.heap.size w)
 unfold impl_turn.f at h; have H := h; clear h
 replace H := bS H; obtain ⟨⟨t209, t210⟩, A4, H⟩ := H; replace H := bS H; obtain ⟨⟨t211, t212⟩, A5, H⟩ := H; replace H := bS H; obtain ⟨t213, A6, H⟩ := H; obtain rfl := Option.some.inj H
 go_enter Try.func119, Try.ntmps119
 try go_wp2_with (first | ((with_reducible refine gate_dst (N := 3) rfl ?_); refine bV 3 (cs := #[.int .i64 a0_0, .int .i64 a0_1]) (t := 50) rfl rfl (by first | (go_simp; done) | (go_simp; rfl)) ?_; intro gb206 hg w7 hbox hb; have BK206 := hbox; have GW206 := gZ HB hg; have GE206 := gZ HB hg; replace HB := tB HB hb; clear hb hbox hg) | ((with_reducible refine gate_dst (N := 4) rfl ?_); refine bV 4 (cs := #[.int .i64 a1_0, .int .i64 a1_1]) (t := 50) rfl rfl (by first | (go_simp; done) | (go_simp; rfl)) ?_; intro gb207 hg w8 hbox hb; have BK207 := hbox; have GW207 := gZ HB hg; have GE207 := gZ HB hg; have NB206_207 := nG BK206 hg; have NB207_206 := nH BK206 hg; replace BK206 := bB BK206 hb; replace HB := tB HB hb; clear hb hbox hg) | ((with_reducible refine gate_dst (N := 5) rfl ?_); refine bV 5 (cs := #[.int .i64 a2_0, .int .i64 a2_1]) (t := 50) rfl rfl (by first | (go_simp; done) | (go_simp; rfl)) ?_; intro gb208 hg w9 hbox hb; have BK208 := hbox; have GW208 := gZ HB hg; have GE208 := gZ HB hg; have NB206_208 := nG BK206 hg; have NB208_206 := nH BK206 hg; have NB207_208 := nG BK207 hg; have NB208_207 := nH BK207 hg; replace BK206 := bB BK206 hb; replace BK207 := bB BK207 hb; replace HB := tB HB hb; clear hb hbox hg))
 replace BK206 := aM (kD BK206.out); replace BK207 := aM (kD BK207.out); replace BK208 := aM (kD BK208.out); replace HB := aM (pD HB.out)
 refine start_ (n := 8) (S := fun w' => w'.cell? ⟨gb207, 0, none⟩ = some (.int .i64 a1_0) ∧ w'.cell? ⟨gb207, 1, none⟩ = some (.int .i64 a1_1) ∧ w'.cell? ⟨gb206, 0, none⟩ = some (.int .i64 a0_0) ∧ w'.cell? ⟨gb206, 1, none⟩ = some (.int .i64 a0_1) ∧ w'.cell? ⟨gb208, 0, none⟩ = some (.int .i64 a2_0) ∧ w'.cell? ⟨gb208, 1, none⟩ = some (.int .i64 a2_1)) (ds := []) (bA 8 0) kR rfl kR ⟨vZ0 BK207, vZ1 BK207, vZ0 BK206, vZ1 BK206, vZ0 BK208, vZ1 BK208⟩ (fun hHeld => ?_); refine with_tabW impl_turn.tab1 impl_turn.bits1 (fun HT_ HW_ => ?_)
 generalize w9.drew = w10 at BK206 BK207 BK208 HB hHeld ⊢
 refine tU 0 7 (bA 8 1) HT_ HW_ hHeld ?_ (hy := Or.inl ⟨by rfl, by rintro w' ⟨s0, s1, s2, s3, s4, s5⟩; go_simp; with_reducible rfl⟩)
 refine tU 1 8 (bA 8 3) HT_ HW_ hHeld ?_ (hy := Or.inl ⟨by rfl, by rintro w' ⟨s0, s1, s2, s3, s4, s5⟩; go_simp; with_reducible rfl⟩)
 refine tU 3 10 (bA 8 11) HT_ HW_ hHeld ?_ (hy := Or.inl ⟨by rfl, by rintro w' ⟨s0, s1, s2, s3, s4, s5⟩; go_simp; with_reducible rfl⟩)
 refine tU 4 11 (bA 8 27) HT_ HW_ hHeld ?_ (hy := Or.inl ⟨by rfl, by rintro w' ⟨s0, s1, s2, s3, s4, s5⟩; go_simp; with_reducible rfl⟩)
 refine oU 2 9 (bA 8 31) HT_ (fun K hK => ?_)
 refine goes_ Try.func65 kR rfl #[.agg #[.int .i64 a1_0, .int .i64 a1_1], .agg #[.int .i64 a0_0, .int .i64 a0_1]] (by rfl) rfl rfl sQ ?_
 with_reducible refine (impl_Peg_less.calls a1_0 a1_1 a0_0 a0_1 t209 t210 _ A4.out).mono ?_
 rintro e w11 ⟨rfl, hb⟩; refine ⟨_, rfl, ?_⟩; replace BK206 := bB BK206 hb; replace BK207 := bB BK207 hb; replace BK208 := bB BK208 hb; replace HB := tB HB hb; (try clear hb); (try clear hb2); (try clear hk); (try clear hi)
 refine hK.out _ _ ⟨vZ0 BK207, vZ1 BK207, vZ0 BK206, vZ1 BK206, vZ0 BK208, vZ1 BK208⟩ (fun hHeld => ?_)
 clear hK K
 refine nU ?_
 refine oU 5 12 (bA 8 63) HT_ (fun K hK => ?_)
 refine goes_ Try.func65 kR rfl #[.agg #[.int .i64 a2_0, .int .i64 a2_1], .agg #[.int .i64 a0_0, .int .i64 a0_1]] (by rfl) rfl rfl sQ ?_
 with_reducible refine (impl_Peg_less.calls a2_0 a2_1 a0_0 a0_1 t211 t212 _ A5.out).mono ?_
 rintro e w12 ⟨rfl, hb⟩; refine ⟨_, rfl, ?_⟩; replace BK206 := bB BK206 hb; replace BK207 := bB BK207 hb; replace BK208 := bB BK208 hb; replace HB := tB HB hb; (try clear hb); (try clear hb2); (try clear hk); (try clear hi)
 refine hK.out _ _ ⟨vZ0 BK207, vZ1 BK207, vZ0 BK206, vZ1 BK206, vZ0 BK208, vZ1 BK208⟩ (fun hHeld => ?_)
 clear hK K
 refine nU ?_
 refine oU 6 13 (bA 8 127) HT_ (fun K hK => ?_)
 refine goes_ Try.func108 kR rfl #[.agg #[.int .i64 t209, .int .i64 t210], .agg #[.int .i64 t211, .int .i64 t212]] (by rfl) rfl rfl sQ ?_
 with_reducible refine (impl_cross.calls t209 t210 t211 t212 t213 _ A6.out).mono ?_
 rintro e w13 ⟨rfl, hb⟩; refine ⟨_, rfl, ?_⟩; replace BK206 := bB BK206 hb; replace BK207 := bB BK207 hb; replace BK208 := bB BK208 hb; replace HB := tB HB hb; (try clear hb); (try clear hb2); (try clear hk); (try clear hi)
 refine hK.out _ _ ⟨vZ0 BK207, vZ1 BK207, vZ0 BK206, vZ1 BK206, vZ0 BK208, vZ1 BK208⟩ (fun hHeld => ?_)
 clear hK K
 refine nU ?_
 refine pU 7 6 (bA 8 255) HT_ ?_
 refine done_ (done_of HT_.out kR) ?_
 try go_wp2
 go_ret
 exact ⟨wQ, bE⟩

def impl_isOn.f (a0_0 : Int) (a0_1 : Int) (a1_0 : Int) (a1_1 : Int) (a2_0 : Int) (a2_1 : Int) : Option (Bool) := (impl_turn.f a0_0 a0_1 a1_0 a1_1 a2_0 a2_1).bind fun t217 => (if t217 = 0 then ((impl_within.f a2_0 (mn a0_0 a1_0) (mx a0_0 a1_0)).bind fun t218 => (if t218 = true then ((impl_within.f a2_1 (mn a0_1 a1_1) (mx a0_1 a1_1)).bind fun t219 => (some t219)) else (some false))) else (some false))
set_option maxHeartbeats 8000000 in
set_option maxRecDepth 100000 in
theorem impl_isOn.calls (a0_0 : Int) (a0_1 : Int) (a1_0 : Int) (a1_1 : Int) (a2_0 : Int) (a2_1 : Int) (r : Bool) (w : World) (h : impl_isOn.f a0_0 a0_1 a1_0 a1_1 a2_0 a2_1 = some r) :
  Calls Try.prog 118 #[.agg #[.int .i64 a0_0, .int .i64 a0_1], .agg #[.int .i64 a1_0, .int .i64 a1_1], .agg #[.int .i64 a2_0, .int .i64 a2_1]] w fun e w' => e = .returned (.bool r) ∧ Below w.heap.size w w' := by
 have hu50 := Try.underlying50; have HB := aM (Below.refl w.heap.size w)
 unfold impl_isOn.f at h; have H := h; clear h
 replace H := bS H; obtain ⟨t217, A4, H⟩ := H
 by_cases c5 : t217 = 0
 ·rw [if_pos c5] at H; have c5b0 : (t217 == 0) = true := beq_iff_eq.mpr c5; have c5b1 : (t217 != 0) = false := bne_eq_false_iff_eq.mpr c5; clear c5; obtain ⟨ji6, hji6⟩ : ∃ j_ : Int, (mn a0_0 a1_0) = j_ := ⟨_, rfl⟩
  (first | rw [hji6] at H | simp only [hji6] at H)
  (try rw [hji6] at A4)
  have hji6_ : (if a1_0 < a0_0 then a1_0 else a0_0) = ji6 := hji6; obtain ⟨ji7, hji7⟩ : ∃ j_ : Int, (mx a0_0 a1_0) = j_ := ⟨_, rfl⟩
  (first | rw [hji7] at H | simp only [hji7] at H)
  (try rw [hji7] at A4)
  have hji7_ : (if a0_0 < a1_0 then a1_0 else a0_0) = ji7 := hji7; replace H := bS H; obtain ⟨t218, A8, H⟩ := H
  by_cases c9 : t218 = true
  ·subst c9; replace H := iT H; obtain ⟨ji10, hji10⟩ : ∃ j_ : Int, (mn a0_1 a1_1) = j_ := ⟨_, rfl⟩
   (first | rw [hji10] at H | simp only [hji10] at H)
   (try rw [hji10] at A4)
   (try rw [hji10] at A8)
   have hji10_ : (if a1_1 < a0_1 then a1_1 else a0_1) = ji10 := hji10; obtain ⟨ji11, hji11⟩ : ∃ j_ : Int, (mx a0_1 a1_1) = j_ := ⟨_, rfl⟩
   (first | rw [hji11] at H | simp only [hji11] at H)
   (try rw [hji11] at A4)
   (try rw [hji11] at A8)
   have hji11_ : (if a0_1 < a1_1 then a1_1 else a0_1) = ji11 := hji11; replace H := bS H; obtain ⟨t219, A12, H⟩ := H; obtain rfl := Option.some.inj H
   go_enter Try.func118, Try.ntmps118
   go_wp2_with (first | ((with_reducible refine gate_dst (N := 3) rfl ?_); (try (refine gate_guard (by rfl) ?_; dsimp only)); refine bV 3 (cs := #[.int .i64 a0_0, .int .i64 a0_1]) (t := 50) rfl rfl (by first | (go_simp; done) | (go_simp; rfl)) ?_; intro gb214 hg w13 hbox hb; have BK214 := hbox; have GW214 := gZ HB hg; have GE214 := gZ HB hg; replace HB := tB HB hb; clear hb hbox hg) | ((with_reducible refine gate_dst (N := 4) rfl ?_); (try (refine gate_guard (by rfl) ?_; dsimp only)); refine bV 4 (cs := #[.int .i64 a1_0, .int .i64 a1_1]) (t := 50) rfl rfl (by first | (go_simp; done) | (go_simp; rfl)) ?_; intro gb215 hg w14 hbox hb; have BK215 := hbox; have GW215 := gZ HB hg; have GE215 := gZ HB hg; have NB214_215 := nG BK214 hg; have NB215_214 := nH BK214 hg; replace BK214 := bB BK214 hb; replace HB := tB HB hb; clear hb hbox hg) | ((with_reducible refine gate_dst (N := 5) rfl ?_); (try (refine gate_guard (by rfl) ?_; dsimp only)); refine bV 5 (cs := #[.int .i64 a2_0, .int .i64 a2_1]) (t := 50) rfl rfl (by first | (go_simp; done) | (go_simp; rfl)) ?_; intro gb216 hg w15 hbox hb; have BK216 := hbox; have GW216 := gZ HB hg; have GE216 := gZ HB hg; have NB214_216 := nG BK214 hg; have NB216_214 := nH BK214 hg; have NB215_216 := nG BK215 hg; have NB216_215 := nH BK215 hg; replace BK214 := bB BK214 hb; replace BK215 := bB BK215 hb; replace HB := tB HB hb; clear hb hbox hg; have hnb16 := NB214_215.out; have hnc16 := NB215_214.out; have hnb17 := NB214_216.out; have hnc17 := NB216_214.out; have hcz18_0 := vZ0 BK214; have hcz18_1 := vZ1 BK214; have hfz18_0 := kF BK214.out 0; have hfz18_1 := kF BK214.out 1; have hnb19 := NB215_216.out; have hnc19 := NB216_215.out; have hcz20_0 := vZ0 BK215; have hcz20_1 := vZ1 BK215; have hfz20_0 := kF BK215.out 0; have hfz20_1 := kF BK215.out 1; have hcz21_0 := vZ0 BK216; have hcz21_1 := vZ1 BK216; have hfz21_0 := kF BK216.out 0; have hfz21_1 := kF BK216.out 1) | ((with_reducible refine gC (f := 119) rfl ?_); refine goesL_ (some 10) rfl rfl Try.func119 kR rfl #[.agg #[.int .i64 a0_0, .int .i64 a0_1], .agg #[.int .i64 a1_0, .int .i64 a1_1], .agg #[.int .i64 a2_0, .int .i64 a2_1]] rfl sQ ?_; (with_reducible refine (impl_turn.calls a0_0 a0_1 a1_0 a1_1 a2_0 a2_1 t217 _ A4.out).mono ?_); rintro e w22 ⟨rfl, hb⟩; refine ⟨_, rfl, ?_⟩; replace BK214 := bB BK214 hb; replace BK215 := bB BK215 hb; replace BK216 := bB BK216 hb; replace HB := tB HB hb; (try clear hb); (try clear hb2); (try clear hk); (try clear hi); have hcz23_0 := vZ0 BK216; have hcz23_1 := vZ1 BK216; have hfz23_0 := kF BK216.out 0; have hfz23_1 := kF BK216.out 1; have hcz24_0 := vZ0 BK214; have hcz24_1 := vZ1 BK214; have hfz24_0 := kF BK214.out 0; have hfz24_1 := kF BK214.out 1; have hcz25_0 := vZ0 BK215; have hcz25_1 := vZ1 BK215; have hfz25_0 := kF BK215.out 0; have hfz25_1 := kF BK215.out 1) | (go_at_call 63; (with_reducible refine (impl_within.calls a2_0 ji6 ji7 true _ A8.out).mono ?_); rintro e w' ⟨rfl, ⟨nd, rfl⟩⟩) | (go_at_call 63; (with_reducible refine (impl_within.calls a2_1 ji10 ji11 t219 _ A12.out).mono ?_); rintro e w' ⟨rfl, ⟨nd, rfl⟩⟩))
   go_ret
   exact ⟨by first | rfl | (simp [errW_none, errW_some] <;> rfl) | (simp only [← hji6, ← hji7, ← hji10, ← hji11]; first | rfl | (simp [errW_none, errW_some] <;> rfl)) | (simp [*, errW_none, errW_some] <;> rfl), bE⟩
  ·replace c9 := Bool.eq_false_iff.mpr c9; subst c9; replace H := iF H; obtain rfl := Option.some.inj H
   go_enter Try.func118, Try.ntmps118
   go_wp2_with (first | ((with_reducible refine gate_dst (N := 3) rfl ?_); (try (refine gate_guard (by rfl) ?_; dsimp only)); refine bV 3 (cs := #[.int .i64 a0_0, .int .i64 a0_1]) (t := 50) rfl rfl (by first | (go_simp; done) | (go_simp; rfl)) ?_; intro gb214 hg w26 hbox hb; have BK214 := hbox; have GW214 := gZ HB hg; have GE214 := gZ HB hg; replace HB := tB HB hb; clear hb hbox hg) | ((with_reducible refine gate_dst (N := 4) rfl ?_); (try (refine gate_guard (by rfl) ?_; dsimp only)); refine bV 4 (cs := #[.int .i64 a1_0, .int .i64 a1_1]) (t := 50) rfl rfl (by first | (go_simp; done) | (go_simp; rfl)) ?_; intro gb215 hg w27 hbox hb; have BK215 := hbox; have GW215 := gZ HB hg; have GE215 := gZ HB hg; have NB214_215 := nG BK214 hg; have NB215_214 := nH BK214 hg; replace BK214 := bB BK214 hb; replace HB := tB HB hb; clear hb hbox hg) | ((with_reducible refine gate_dst (N := 5) rfl ?_); (try (refine gate_guard (by rfl) ?_; dsimp only)); refine bV 5 (cs := #[.int .i64 a2_0, .int .i64 a2_1]) (t := 50) rfl rfl (by first | (go_simp; done) | (go_simp; rfl)) ?_; intro gb216 hg w28 hbox hb; have BK216 := hbox; have GW216 := gZ HB hg; have GE216 := gZ HB hg; have NB214_216 := nG BK214 hg; have NB216_214 := nH BK214 hg; have NB215_216 := nG BK215 hg; have NB216_215 := nH BK215 hg; replace BK214 := bB BK214 hb; replace BK215 := bB BK215 hb; replace HB := tB HB hb; clear hb hbox hg; have hnb29 := NB214_215.out; have hnc29 := NB215_214.out; have hnb30 := NB214_216.out; have hnc30 := NB216_214.out; have hcz31_0 := vZ0 BK214; have hcz31_1 := vZ1 BK214; have hfz31_0 := kF BK214.out 0; have hfz31_1 := kF BK214.out 1; have hnb32 := NB215_216.out; have hnc32 := NB216_215.out; have hcz33_0 := vZ0 BK215; have hcz33_1 := vZ1 BK215; have hfz33_0 := kF BK215.out 0; have hfz33_1 := kF BK215.out 1; have hcz34_0 := vZ0 BK216; have hcz34_1 := vZ1 BK216; have hfz34_0 := kF BK216.out 0; have hfz34_1 := kF BK216.out 1) | ((with_reducible refine gC (f := 119) rfl ?_); refine goesL_ (some 10) rfl rfl Try.func119 kR rfl #[.agg #[.int .i64 a0_0, .int .i64 a0_1], .agg #[.int .i64 a1_0, .int .i64 a1_1], .agg #[.int .i64 a2_0, .int .i64 a2_1]] rfl sQ ?_; (with_reducible refine (impl_turn.calls a0_0 a0_1 a1_0 a1_1 a2_0 a2_1 t217 _ A4.out).mono ?_); rintro e w35 ⟨rfl, hb⟩; refine ⟨_, rfl, ?_⟩; replace BK214 := bB BK214 hb; replace BK215 := bB BK215 hb; replace BK216 := bB BK216 hb; replace HB := tB HB hb; (try clear hb); (try clear hb2); (try clear hk); (try clear hi); have hcz36_0 := vZ0 BK216; have hcz36_1 := vZ1 BK216; have hfz36_0 := kF BK216.out 0; have hfz36_1 := kF BK216.out 1; have hcz37_0 := vZ0 BK214; have hcz37_1 := vZ1 BK214; have hfz37_0 := kF BK214.out 0; have hfz37_1 := kF BK214.out 1; have hcz38_0 := vZ0 BK215; have hcz38_1 := vZ1 BK215; have hfz38_0 := kF BK215.out 0; have hfz38_1 := kF BK215.out 1) | (go_at_call 63; (with_reducible refine (impl_within.calls a2_0 ji6 ji7 false _ A8.out).mono ?_); rintro e w' ⟨rfl, ⟨nd, rfl⟩⟩))
   go_ret
   exact ⟨by first | rfl | (simp [errW_none, errW_some] <;> rfl) | (simp only [← hji6, ← hji7]; first | rfl | (simp [errW_none, errW_some] <;> rfl)) | (simp [*, errW_none, errW_some] <;> rfl), bE⟩
 ·rw [if_neg c5] at H; have c5b0 : (t217 == 0) = false := beq_eq_false_iff_ne.mpr c5; have c5b1 : (t217 != 0) = true := bne_iff_ne.mpr c5; obtain rfl := Option.some.inj H
  go_enter Try.func118, Try.ntmps118
  go_wp2_with (first | ((with_reducible refine gate_dst (N := 3) rfl ?_); (try (refine gate_guard (by rfl) ?_; dsimp only)); refine bV 3 (cs := #[.int .i64 a0_0, .int .i64 a0_1]) (t := 50) rfl rfl (by first | (go_simp; done) | (go_simp; rfl)) ?_; intro gb214 hg w39 hbox hb; have BK214 := hbox; have GW214 := gZ HB hg; have GE214 := gZ HB hg; replace HB := tB HB hb; clear hb hbox hg) | ((with_reducible refine gate_dst (N := 4) rfl ?_); (try (refine gate_guard (by rfl) ?_; dsimp only)); refine bV 4 (cs := #[.int .i64 a1_0, .int .i64 a1_1]) (t := 50) rfl rfl (by first | (go_simp; done) | (go_simp; rfl)) ?_; intro gb215 hg w40 hbox hb; have BK215 := hbox; have GW215 := gZ HB hg; have GE215 := gZ HB hg; have NB214_215 := nG BK214 hg; have NB215_214 := nH BK214 hg; replace BK214 := bB BK214 hb; replace HB := tB HB hb; clear hb hbox hg) | ((with_reducible refine gate_dst (N := 5) rfl ?_); (try (refine gate_guard (by rfl) ?_; dsimp only)); refine bV 5 (cs := #[.int .i64 a2_0, .int .i64 a2_1]) (t := 50) rfl rfl (by first | (go_simp; done) | (go_simp; rfl)) ?_; intro gb216 hg w41 hbox hb; have BK216 := hbox; have GW216 := gZ HB hg; have GE216 := gZ HB hg; have NB214_216 := nG BK214 hg; have NB216_214 := nH BK214 hg; have NB215_216 := nG BK215 hg; have NB216_215 := nH BK215 hg; replace BK214 := bB BK214 hb; replace BK215 := bB BK215 hb; replace HB := tB HB hb; clear hb hbox hg; have hnb42 := NB214_215.out; have hnc42 := NB215_214.out; have hnb43 := NB214_216.out; have hnc43 := NB216_214.out; have hcz44_0 := vZ0 BK214; have hcz44_1 := vZ1 BK214; have hfz44_0 := kF BK214.out 0; have hfz44_1 := kF BK214.out 1; have hnb45 := NB215_216.out; have hnc45 := NB216_215.out; have hcz46_0 := vZ0 BK215; have hcz46_1 := vZ1 BK215; have hfz46_0 := kF BK215.out 0; have hfz46_1 := kF BK215.out 1; have hcz47_0 := vZ0 BK216; have hcz47_1 := vZ1 BK216; have hfz47_0 := kF BK216.out 0; have hfz47_1 := kF BK216.out 1) | ((with_reducible refine gC (f := 119) rfl ?_); refine goesL_ (some 10) rfl rfl Try.func119 kR rfl #[.agg #[.int .i64 a0_0, .int .i64 a0_1], .agg #[.int .i64 a1_0, .int .i64 a1_1], .agg #[.int .i64 a2_0, .int .i64 a2_1]] rfl sQ ?_; (with_reducible refine (impl_turn.calls a0_0 a0_1 a1_0 a1_1 a2_0 a2_1 t217 _ A4.out).mono ?_); rintro e w48 ⟨rfl, hb⟩; refine ⟨_, rfl, ?_⟩; replace BK214 := bB BK214 hb; replace BK215 := bB BK215 hb; replace BK216 := bB BK216 hb; replace HB := tB HB hb; (try clear hb); (try clear hb2); (try clear hk); (try clear hi)))
  go_ret
  exact ⟨wQ, bE⟩

end Go.Proofs.Ytfihohongkfibaa.X
