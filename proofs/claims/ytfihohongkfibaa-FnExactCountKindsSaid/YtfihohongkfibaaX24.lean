-- thin
-- short
-- compact
import Derived.Test.YtfihohongkfibaaXA
import Derived.Test.YtfihohongkfibaaX0
import Derived.Test.YtfihohongkfibaaX21
import Derived.Test.YtfihohongkfibaaX23
namespace Go.Proofs.Ytfihohongkfibaa.X
open Go.RowKit Go.Proofs.Ytfihohongkfibaa.XW Go.Proofs.YtfihohongkfibaaW.PrintWords Go.Proofs.YtfihohongkfibaaW.PrintLast Go.Proofs.YtfihohongkfibaaW.PrintMore
attribute [local go_sem] max2_int min2_int max_two min_two max_three min_three max_four min_four   -- for this text's walks alone
set_option linter.unusedVariables false
set_option linter.unusedSimpArgs false

def laws_FnExactCountKinds.f (k : Nat) (a0 : Int) : Option (Bool) := (spec_CountKinds.f k a0).bind fun bt545 => ((impl_CountKinds.f k a0).bind fun bt547 => (if bt547.1 = bt545.1 then (if (bt547.2 != bt545.2) = true then (some false) else (some true)) else (some false)))
theorem laws_FnExactCountKinds.mono : ∀ a0 k, LeO (laws_FnExactCountKinds.f k a0) (laws_FnExactCountKinds.f (k + 1) a0) := by
 intro a0 k
 unfold laws_FnExactCountKinds.f
 repeat' first | (with_reducible exact impl_CountKinds.mono _ _) | (with_reducible exact spec_CountKinds.mono _ _) | (with_reducible exact LeO.refl _) | (with_reducible exact LeO.none _) | (with_reducible refine LeO.ite ?_ ?_) | (with_reducible refine LeO.bind ?_ (fun _ => ?_)) | exact impl_CountKinds.mono _ _ | exact spec_CountKinds.mono _ _ | exact LeO.none _ | refine LeO.ite ?_ ?_ | refine LeO.bind ?_ (fun _ => ?_)
set_option maxHeartbeats 8000000 in
set_option maxRecDepth 100000 in
theorem laws_FnExactCountKinds.calls (k : Nat) (a0 : Int) (r : Bool) (w : World) (h : laws_FnExactCountKinds.f k a0 = some r) :
  Calls Try.prog 11 #[.int .i64 a0] w fun e w' => e = .returned (.bool r) ∧ Below w.heap.size w w' := by
 have HB := aM (Below.refl w.heap.size w)
 unfold laws_FnExactCountKinds.f at h; have H := h; clear h
 replace H := bS H; obtain ⟨⟨t545, t546⟩, A2, H⟩ := H; replace H := bS H; obtain ⟨⟨t547, t548⟩, A3, H⟩ := H
 by_cases c4 : t547 = t545
 ·rw [if_pos c4] at H; have c4b0 : (t547 == t545) = true := beq_iff_eq.mpr c4; have c4b1 : (t547 != t545) = false := bne_eq_false_iff_eq.mpr c4; clear c4
  by_cases c5 : (t548 != t546) = true
  ·rw [if_pos c5] at H; have c5b0 := c5
   (try (have c5b1 : decide (t548 = t546) = false := by simpa using c5))
   (try (have c5b2 : (t548 == t546) = false := by simpa using c5))
   (try (have c5b3 : ¬ (t548 = t546) := by simpa using c5))
   clear c5; obtain rfl := Option.some.inj H
   go_enter Try.func11, Try.ntmps11
   go_wp2_with (first | ((with_reducible refine gC (f := 44) rfl ?_); refine goesL_ (some 9) rfl rfl Try.func44 kR rfl #[.int .i64 a0] rfl sQ ?_; (with_reducible refine (spec_CountKinds.calls k a0 t545 t546 _ A2.out).mono ?_); rintro e w6 ⟨rfl, hb⟩; refine ⟨_, rfl, ?_⟩; replace HB := tB HB hb; (try clear hb); (try clear hb2); (try clear hk); (try clear hi)) | ((with_reducible refine gC (f := 45) rfl ?_); refine goesL_ (some 14) rfl rfl Try.func45 kR rfl #[.int .i64 a0] rfl sQ ?_; (with_reducible refine (impl_CountKinds.calls k a0 t547 t548 _ A3.out).mono ?_); rintro e w7 ⟨rfl, hb⟩; refine ⟨_, rfl, ?_⟩; replace HB := tB HB hb; (try clear hb); (try clear hb2); (try clear hk); (try clear hi)))
   go_ret
   exact ⟨wQ, bQ⟩
  ·rw [if_neg c5] at H; have c5b0 : (t548 != t546) = false := by simpa using c5
   (try (have c5b1 : decide (t548 = t546) = true := by simpa using c5))
   (try (have c5b2 : (t548 == t546) = true := by simpa using c5))
   clear c5; obtain rfl := Option.some.inj H
   go_enter Try.func11, Try.ntmps11
   go_wp2_with (first | ((with_reducible refine gC (f := 44) rfl ?_); refine goesL_ (some 9) rfl rfl Try.func44 kR rfl #[.int .i64 a0] rfl sQ ?_; (with_reducible refine (spec_CountKinds.calls k a0 t545 t546 _ A2.out).mono ?_); rintro e w8 ⟨rfl, hb⟩; refine ⟨_, rfl, ?_⟩; replace HB := tB HB hb; (try clear hb); (try clear hb2); (try clear hk); (try clear hi)) | ((with_reducible refine gC (f := 45) rfl ?_); refine goesL_ (some 14) rfl rfl Try.func45 kR rfl #[.int .i64 a0] rfl sQ ?_; (with_reducible refine (impl_CountKinds.calls k a0 t547 t548 _ A3.out).mono ?_); rintro e w9 ⟨rfl, hb⟩; refine ⟨_, rfl, ?_⟩; replace HB := tB HB hb; (try clear hb); (try clear hb2); (try clear hk); (try clear hi)))
   go_ret
   exact ⟨wQ, bQ⟩
 ·rw [if_neg c4] at H; have c4b0 : (t547 == t545) = false := beq_eq_false_iff_ne.mpr c4; have c4b1 : (t547 != t545) = true := bne_iff_ne.mpr c4; obtain rfl := Option.some.inj H
  go_enter Try.func11, Try.ntmps11
  go_wp2_with (first | ((with_reducible refine gC (f := 44) rfl ?_); refine goesL_ (some 9) rfl rfl Try.func44 kR rfl #[.int .i64 a0] rfl sQ ?_; (with_reducible refine (spec_CountKinds.calls k a0 t545 t546 _ A2.out).mono ?_); rintro e w10 ⟨rfl, hb⟩; refine ⟨_, rfl, ?_⟩; replace HB := tB HB hb; (try clear hb); (try clear hb2); (try clear hk); (try clear hi)) | ((with_reducible refine gC (f := 45) rfl ?_); refine goesL_ (some 14) rfl rfl Try.func45 kR rfl #[.int .i64 a0] rfl sQ ?_; (with_reducible refine (impl_CountKinds.calls k a0 t547 t548 _ A3.out).mono ?_); rintro e w11 ⟨rfl, hb⟩; refine ⟨_, rfl, ?_⟩; replace HB := tB HB hb; (try clear hb); (try clear hb2); (try clear hk); (try clear hi)))
  go_ret
  exact ⟨wQ, bQ⟩

def laws_FnExactCountKinds.Pure : Prop := ∀ (a0 : Int), (Lit.int .i64 a0).wf = true → ∃ k, laws_FnExactCountKinds.f k a0 = some true

end Go.Proofs.Ytfihohongkfibaa.X
