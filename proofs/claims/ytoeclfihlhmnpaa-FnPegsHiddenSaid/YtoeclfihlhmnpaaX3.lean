-- thin
-- short
-- compact
import Derived.Test.YtoeclfihlhmnpaaXA
import Derived.Test.YtoeclfihlhmnpaaX0
namespace Go.Proofs.Ytoeclfihlhmnpaa.X
open Go.RowKit Go.Proofs.Ytoeclfihlhmnpaa.XW Go.Proofs.YtoeclfihlhmnpaaW.PrintWords Go.Proofs.YtoeclfihlhmnpaaW.PrintLast Go.Proofs.YtoeclfihlhmnpaaW.PrintMore
attribute [local go_sem] max2_int min2_int max_two min_two max_three min_three max_four min_four   -- for this text's walks alone
set_option linter.unusedVariables false
set_option linter.unusedSimpArgs false

def laws_big.f (l0 : List Int) (l1 : List Int) : Option (Bool) := if (l0.length : Int) > 1048576 then (some true) else (some (decide ((l1.length : Int) > (wrap64 (1048576 - (l0.length : Int))))))
set_option maxHeartbeats 8000000 in
set_option maxRecDepth 100000 in
theorem laws_big.calls (A0 : Option Addr) (c0 : Nat) (l0 : List Int) (A1 : Option Addr) (c1 : Nat) (l1 : List Int) (r : Bool) (w : World) (hr0 : Kd.C (Kd.int .u8) w A0 l0.length l0) (hc0 : l0.length ≤ c0) (hr1 : Kd.C (Kd.int .u8) w A1 l1.length l1) (hc1 : l1.length ≤ c1) (h : laws_big.f l0 l1 = some r) :
  Calls Try.prog 14 #[.slice A0 l0.length c0, .slice A1 l1.length c1] w fun e w' => e = .returned (.bool r) ∧ Drawn0 w w' := by
 have HR0 := aM hr0; have HC0 := aM hc0; clear hr0 hc0; have HR1 := aM hr1; have HC1 := aM hc1; clear hr1 hc1
 unfold laws_big.f at h; have H := h; clear h
 by_cases c3 : (l0.length : Int) > 1048576
 ·rw [if_pos c3] at H; have c3b0 := dE c3; have c3b1 : decide (1048576 < l0.length) = true := dE (by omega)
  clear c3; obtain rfl := Option.some.inj H
  go_enter Try.func14, Try.ntmps14
  go_wp2
  go_ret
  exact ⟨eQ, dQ⟩
 ·rw [if_neg c3] at H; have c3b0 := decide_eq_false c3; have c3b1 : decide (1048576 < l0.length) = false := decide_eq_false (by omega)
  clear c3; obtain rfl := Option.some.inj H
  go_enter Try.func14, Try.ntmps14
  go_wp2
  go_ret
  exact ⟨eQ, dQ⟩

def IsS80 (w0 W : World) (g : Nat) (f0 : List Int) (f1 : Int) (f2 : Int) : Prop := ∃ A0 c0, W.heap[g]? = some (.cells #[.slice A0 f0.length c0, .int .i64 f1, .int .u64 f2] 80 (0, 0)) ∧ w0.heap.size ≤ g ∧ Kd.C (Kd.int .u8) w0 A0 f0.length f0
theorem IsS80.grown {w0 W : World} {g : Nat} {f0 : List Int} {f1 : Int} {f2 : Int} {W1 : World} {row : Option Nat} (h : IsS80 w0 W g f0 f1 f2) (hw : W.grownBy W1 row) (hne : some g ≠ row) : IsS80 w0 W1 g f0 f1 f2 := by
 obtain ⟨A0, c0, hb, hg, hr0⟩ := h
 exact ⟨A0, c0, blk_grown hb hw hne, hg, hr0⟩
theorem IsS80.own_neN {w0 W : World} {g : Nat} {f0 : List Int} {f1 : Int} {f2 : Int} {α : Type} {d : Kd α} {e : Nat} {base : Nat} {ok : Nat → Prop} {v : Value} {xs : List α} (h : IsS80 w0 W g f0 f1 f2) (ho : Kd.N d e W base ok v xs) (ht : e ≠ 80) : some g ≠ v.ownBlock := by
 obtain ⟨A0, c0, hb, hg, hr0⟩ := h
 exact Kd.N_ne ho hb ht
theorem IsS80.fresh {w0 W : World} {g : Nat} {f0 : List Int} {f1 : Int} {f2 : Int} (h : IsS80 w0 W g f0 f1 f2) : ∀ k, W.heap.size ≤ k → k ≠ g := by
 obtain ⟨A0, c0, hb, hg, hr0⟩ := h
 exact Kd.freshB hb
theorem IsS80.kept {w0 W : World} {g : Nat} {f0 : List Int} {f1 : Int} {f2 : Int} {W1 : World} {S : Nat → Prop} (h : IsS80 w0 W g f0 f1 f2) (hk : Kept W W1 S) (hne : ¬ S g) : IsS80 w0 W1 g f0 f1 f2 := by
 obtain ⟨A0, c0, hb, hg, hr0⟩ := h
 exact ⟨A0, c0, blk_kept hb hk hne, hg, hr0⟩
theorem IsS80.below {w0 W : World} {g : Nat} {f0 : List Int} {f1 : Int} {f2 : Int} {W1 : World} (h : IsS80 w0 W g f0 f1 f2) (hw : Below W.heap.size W W1) : IsS80 w0 W1 g f0 f1 f2 := h.grown (grown_of_below hw none) (by simp)
theorem IsS80.alloc {w0 W : World} {g : Nat} {f0 : List Int} {f1 : Int} {f2 : Int} (h : IsS80 w0 W g f0 f1 f2) (o : Obj) : IsS80 w0 (W.alloc o) g f0 f1 f2 := h.below (pA (Below.refl _ _) o)
theorem IsS80.drewN {w0 W : World} {g : Nat} {f0 : List Int} {f1 : Int} {f2 : Int} (h : IsS80 w0 W g f0 f1 f2) (m : Nat) : IsS80 w0 (W.drewN m) g f0 f1 f2 := h
theorem IsS80.drew {w0 W : World} {g : Nat} {f0 : List Int} {f1 : Int} {f2 : Int} (h : IsS80 w0 W g f0 f1 f2) : IsS80 w0 W.drew g f0 f1 f2 := h
theorem IsS80.at_ {w0 W : World} {g : Nat} {f0 : List Int} {f1 : Int} {f2 : Int} {w' : World} {m : Nat} (hq : W.drewN m = w') (h : IsS80 w0 W g f0 f1 f2) : IsS80 w0 w' g f0 f1 f2 := by subst hq; exact IsS80.drewN h m
theorem IsS80.apart {w0 W : World} {g : Nat} {f0 : List Int} {f1 : Int} {f2 : Int} {α : Type} {d : Kd α} {e : Nat} {base : Nat} {ok : Nat → Prop} {v : Value} {xs : List α} (h : IsS80 w0 W g f0 f1 f2) (ho : d.R e W base ok v xs) (ht : ∀ q, q ∈ e :: d.E → q ≠ 80) : d.R e W base (fun k => ok k ∧ k ≠ g) v xs := by
 obtain ⟨A0, c0, hb, hg, hr0⟩ := h
 exact Kd.R_types ho hb ht
theorem IsS80.own_ne {w0 W : World} {g : Nat} {f0 : List Int} {f1 : Int} {f2 : Int} {α : Type} {d : Kd α} {e : Nat} {base : Nat} {ok : Nat → Prop} {v : Value} {xs : List α} (h : IsS80 w0 W g f0 f1 f2) (ho : d.R e W base ok v xs) (ht : e ≠ 80) : some g ≠ v.ownBlock := by
 obtain ⟨A0, c0, hb, hg, hr0⟩ := h
 exact Kd.R_ne ho hb ht
theorem IsS80.apartQ {w0 W : World} {g : Nat} {f0 : List Int} {f1 : Int} {f2 : Int} {α : Type} {d : Kd α} {e : Nat} {base : Nat} {ok : Nat → Prop} {v : Value} {xs : List α} (h : IsS80 w0 W g f0 f1 f2) (ho : d.Q e W base ok v xs) (ht : ∀ q, q ∈ e :: d.E → q ≠ 80) : d.Q e W base (fun k => ok k ∧ k ≠ g) v xs := by
 obtain ⟨A0, c0, hb, hg, hr0⟩ := h
 exact Kd.Q_types ho hb ht
theorem IsS80.own_neQ {w0 W : World} {g : Nat} {f0 : List Int} {f1 : Int} {f2 : Int} {α : Type} {d : Kd α} {e : Nat} {base : Nat} {ok : Nat → Prop} {v : Value} {xs : List α} (h : IsS80 w0 W g f0 f1 f2) (ho : d.Q e W base ok v xs) (ht : e ≠ 80) : some g ≠ v.ownBlock := by
 obtain ⟨A0, c0, hb, hg, hr0⟩ := h
 exact Kd.Q_ne ho hb ht
theorem IsS80.apartS {w0 W : World} {g : Nat} {f0 : List Int} {f1 : Int} {f2 : Int} {α : Type} {d : Kd α} {e : Nat} {base : Nat} {ok : Nat → Prop} {v : Value} {xs : List α} (h : IsS80 w0 W g f0 f1 f2) (ho : d.S e W base ok v xs) (ht : ∀ q, q ∈ e :: d.E → q ≠ 80) : d.S e W base (fun k => ok k ∧ k ≠ g) v xs := by
 obtain ⟨A0, c0, hb, hg, hr0⟩ := h
 exact Kd.S_types ho hb ht
theorem IsS80.own_neS {w0 W : World} {g : Nat} {f0 : List Int} {f1 : Int} {f2 : Int} {α : Type} {d : Kd α} {e : Nat} {base : Nat} {ok : Nat → Prop} {v : Value} {xs : List α} (h : IsS80 w0 W g f0 f1 f2) (ho : d.S e W base ok v xs) (ht : e ≠ 80) : some g ≠ v.ownBlock := by
 obtain ⟨A0, c0, hb, hg, hr0⟩ := h
 exact Kd.S_ne ho hb ht
theorem IsS80.lt {w0 W : World} {g : Nat} {f0 : List Int} {f1 : Int} {f2 : Int} (h : IsS80 w0 W g f0 f1 f2) : g < W.heap.size := by
 obtain ⟨A0, c0, hb, hg, hr0⟩ := h
 exact blk_lt hb
theorem IsS80.ge {w0 W : World} {g : Nat} {f0 : List Int} {f1 : Int} {f2 : Int} (h : IsS80 w0 W g f0 f1 f2) : w0.heap.size ≤ g := by
 obtain ⟨A0, c0, hb, hg, hr0⟩ := h
 exact hg
theorem IsS80.ne_blk {w0 W : World} {g : Nat} {f0 : List Int} {f1 : Int} {f2 : Int} {a : Nat} {cs : Array Value} {t : TypeId} {fr : Nat × Nat} (h : IsS80 w0 W g f0 f1 f2) (hb2 : W.heap[a]? = some (.cells cs t fr)) (ht : t ≠ 80) : g ≠ a := by
 obtain ⟨A0, c0, hb, hg, hr0⟩ := h
 rintro rfl
 rw [hb] at hb2
 injection hb2 with hb2
 injection hb2 with _ ht2
 exact ht ht2.symm
theorem IsS80.far {w0 W : World} {g : Nat} {f0 : List Int} {f1 : Int} {f2 : Int} {p : Addr} (h : IsS80 w0 W g f0 f1 f2) (hne : g ≠ p.block) (u : Value) : IsS80 w0 (W.setCell p u) g f0 f1 f2 := by
 obtain ⟨A0, c0, hb, hg, hr0⟩ := h
 exact ⟨A0, c0, blk_far hb hne u, hg, hr0⟩
theorem cellS80_0 {W : World} {g : Nat} {A0 : Option Addr} {c0 : Nat} {f0 : List Int} {f1 : Int} {f2 : Int} (h : W.heap[g]? = some (.cells #[.slice A0 f0.length c0, .int .i64 f1, .int .u64 f2] 80 (0, 0))) : W.cell? ⟨g, 0, none⟩ = some (.slice A0 f0.length c0) := (kC h 0).trans rfl
theorem cellS80_1 {W : World} {g : Nat} {A0 : Option Addr} {c0 : Nat} {f0 : List Int} {f1 : Int} {f2 : Int} (h : W.heap[g]? = some (.cells #[.slice A0 f0.length c0, .int .i64 f1, .int .u64 f2] 80 (0, 0))) : W.cell? ⟨g, 1, none⟩ = some (.int .i64 f1) := (kC h 1).trans rfl
theorem IsS80.set_1 {w0 W : World} {g : Nat} {f0 : List Int} {f1 : Int} {f2 : Int} (h : IsS80 w0 W g f0 f1 f2) (x : Int) : IsS80 w0 (W.setCell ⟨g, 1, none⟩ (.int .i64 x)) g f0 x f2 := by
 obtain ⟨A0, c0, hb, hg, hr0⟩ := h
 exact ⟨A0, c0, by simpa using blk_set hb 1 (.int .i64 x), hg, hr0⟩
theorem cellS80_2 {W : World} {g : Nat} {A0 : Option Addr} {c0 : Nat} {f0 : List Int} {f1 : Int} {f2 : Int} (h : W.heap[g]? = some (.cells #[.slice A0 f0.length c0, .int .i64 f1, .int .u64 f2] 80 (0, 0))) : W.cell? ⟨g, 2, none⟩ = some (.int .u64 f2) := (kC h 2).trans rfl
theorem IsS80.set_2 {w0 W : World} {g : Nat} {f0 : List Int} {f1 : Int} {f2 : Int} (h : IsS80 w0 W g f0 f1 f2) (x : Int) : IsS80 w0 (W.setCell ⟨g, 2, none⟩ (.int .u64 x)) g f0 f1 x := by
 obtain ⟨A0, c0, hb, hg, hr0⟩ := h
 exact ⟨A0, c0, by simpa using blk_set hb 2 (.int .u64 x), hg, hr0⟩
theorem IsS80.new (w0 W : World) (A0 : Option Addr) (c0 : Nat) (f0 : List Int) (f1 : Int) (f2 : Int) (hB : Below w0.heap.size w0 W) (hr0 : Kd.C (Kd.int .u8) w0 A0 f0.length f0) : IsS80 w0 (W.alloc (.cells #[.slice A0 f0.length c0, .int .i64 f1, .int .u64 f2] 80)) W.heap.size f0 f1 f2 := ⟨A0, c0, by simpa using heap_alloc_new W _, hB.size, hr0⟩

def spec_l1Cur_next.f (s0_0 : List Int) (s0_1 : Int) (s0_2 : Int) : Option (Int × Int × Int) := if s0_1 < (s0_0.length : Int) then (if 0 ≤ s0_1 then (if (wrap64 (s0_1 + 1)) ≤ (s0_0.length : Int) then (some (wrap64 (rd s0_0 s0_1), wrap64 (s0_1 + 1), IntKind.u64.wrap ((IntKind.u64.wrap ((IntKind.u64.wrap (s0_2 * 6364136223846793005)) + (IntKind.u64.wrap (wrap64 (rd s0_0 s0_1))))) + 1442695040888963407))) else (some (wrap64 (Go.bits .and .u64 ((IntKind.u64.wrap ((IntKind.u64.wrap ((IntKind.u64.wrap (s0_2 * 6364136223846793005)) + (IntKind.u64.wrap (wrap64 (rd s0_0 s0_1))))) + 1442695040888963407)) / 1099511627776) 255), wrap64 (s0_1 + 1), IntKind.u64.wrap ((IntKind.u64.wrap ((IntKind.u64.wrap (s0_2 * 6364136223846793005)) + (IntKind.u64.wrap (wrap64 (rd s0_0 s0_1))))) + 1442695040888963407)))) else (none)) else (if (wrap64 (s0_1 + 1)) ≤ (s0_0.length : Int) then (some (0, wrap64 (s0_1 + 1), IntKind.u64.wrap ((IntKind.u64.wrap (IntKind.u64.wrap (s0_2 * 6364136223846793005))) + 1442695040888963407))) else (some (wrap64 (Go.bits .and .u64 ((IntKind.u64.wrap ((IntKind.u64.wrap (IntKind.u64.wrap (s0_2 * 6364136223846793005))) + 1442695040888963407)) / 1099511627776) 255), wrap64 (s0_1 + 1), IntKind.u64.wrap ((IntKind.u64.wrap (IntKind.u64.wrap (s0_2 * 6364136223846793005))) + 1442695040888963407))))
set_option maxHeartbeats 8000000 in
set_option maxRecDepth 100000 in
theorem spec_l1Cur_next.calls (g : Nat) (s0_0 : List Int) (s0_1 : Int) (s0_2 : Int) (r1 : Int) (r2 : Int) (r3 : Int) (w0 w : World) (hI : IsS80 w0 w g s0_0 s0_1 s0_2) (hB : Below w0.heap.size w0 w) (h : spec_l1Cur_next.f s0_0 s0_1 s0_2 = some (r1, r2, r3)) :
  Calls Try.prog 88 #[.pointer (some ⟨g, 0, none⟩)] w fun e w' => e = .returned (.int .i64 r1) ∧ IsS80 w0 w' g s0_0 r2 r3 ∧ Below w0.heap.size w0 w' ∧ KeepBut w w' g none := by
 have HI0 := aM hI; have HK := aM (KeepBut.refl w g none); have HL := aM hB.size; clear hI; have HW0 := aM hB.size; have HB := aM hB; clear hB
 unfold spec_l1Cur_next.f at h; have H := h; clear h
 by_cases c2 : s0_1 < (s0_0.length : Int)
 ·rw [if_pos c2] at H; have c2b0 := dE c2; clear c2; replace H := iD H; obtain ⟨c3b0, H⟩ := H
  by_cases c4 : (wrap64 (s0_1 + 1)) ≤ (s0_0.length : Int)
  ·rw [if_pos c4] at H; have c4b0 := dE c4; clear c4
   simp only [Option.some.injEq, Prod.mk.injEq] at H
   obtain ⟨rfl, rfl, rfl⟩ := H; obtain ⟨ASz5_0, cSz5_0, HGz5, hgz5, HSz5_0⟩ := HI0.out; have hcz5_0 := cellS80_0 HGz5; have hcz5_1 := cellS80_1 HGz5; have hcz5_2 := cellS80_2 HGz5; have hfz5_1 := kF HGz5 1; have hfz5_2 := kF HGz5 2; clear HGz5 hgz5; have p101 : 0 ≤ (s0_1 : Int) := dT aQ; have q101 : s0_1 < (s0_0.length : Int) := dT aQ; obtain ⟨ad101, e101, hx101_0⟩ := Kd.at_int HSz5_0 s0_1 p101 q101
   cases e101
   replace hx101_0 := pw_cell_below HB.out hx101_0; replace p101 := eq_true p101; replace q101 := eq_true q101
   go_enter Try.func88, Try.ntmps88
   go_wp2
   repeat (go_quiet (fail); try go_wp2)
   go_ret
   exact ⟨wQ, by repeat (first | (with_reducible first | exact HI0.out | apply IsS80.alloc | apply IsS80.drewN | apply IsS80.drew | apply IsS80.set_1 | apply IsS80.set_2) | exact HI0.out), by repeat (first | (with_reducible first | exact HB.out | apply pA | apply pN | apply pD | refine pS ?_ (IsS80.ge HI0.out)) | exact HB.out), by repeat (first | (with_reducible first | exact HK.out | apply KeepBut.set_ | apply keep_drewN | apply keep_drew | apply keep_alloc) | exact HK.out)⟩
  ·rw [if_neg c4] at H; have c4b0 := decide_eq_false c4; clear c4
   simp only [Option.some.injEq, Prod.mk.injEq] at H
   obtain ⟨rfl, rfl, rfl⟩ := H; obtain ⟨ASz6_0, cSz6_0, HGz6, hgz6, HSz6_0⟩ := HI0.out; have hcz6_0 := cellS80_0 HGz6; have hcz6_1 := cellS80_1 HGz6; have hcz6_2 := cellS80_2 HGz6; have hfz6_1 := kF HGz6 1; have hfz6_2 := kF HGz6 2; clear HGz6 hgz6; have p101 : 0 ≤ (s0_1 : Int) := dT aQ; have q101 : s0_1 < (s0_0.length : Int) := dT aQ; obtain ⟨ad101, e101, hx101_0⟩ := Kd.at_int HSz6_0 s0_1 p101 q101
   cases e101
   replace hx101_0 := pw_cell_below HB.out hx101_0; replace p101 := eq_true p101; replace q101 := eq_true q101
   go_enter Try.func88, Try.ntmps88
   go_wp2
   repeat (go_quiet (fail); try go_wp2)
   go_ret
   exact ⟨wQ, by repeat (first | (with_reducible first | exact HI0.out | apply IsS80.alloc | apply IsS80.drewN | apply IsS80.drew | apply IsS80.set_1 | apply IsS80.set_2) | exact HI0.out), by repeat (first | (with_reducible first | exact HB.out | apply pA | apply pN | apply pD | refine pS ?_ (IsS80.ge HI0.out)) | exact HB.out), by repeat (first | (with_reducible first | exact HK.out | apply KeepBut.set_ | apply keep_drewN | apply keep_drew | apply keep_alloc) | exact HK.out)⟩
 ·rw [if_neg c2] at H; have c2b0 := decide_eq_false c2; clear c2
  by_cases c7 : (wrap64 (s0_1 + 1)) ≤ (s0_0.length : Int)
  ·rw [if_pos c7] at H; have c7b0 := dE c7; clear c7
   simp only [Option.some.injEq, Prod.mk.injEq] at H
   obtain ⟨rfl, rfl, rfl⟩ := H; obtain ⟨ASz8_0, cSz8_0, HGz8, hgz8, HSz8_0⟩ := HI0.out; have hcz8_0 := cellS80_0 HGz8; have hcz8_1 := cellS80_1 HGz8; have hcz8_2 := cellS80_2 HGz8; have hfz8_1 := kF HGz8 1; have hfz8_2 := kF HGz8 2; clear HGz8 hgz8
   go_enter Try.func88, Try.ntmps88
   go_wp2
   repeat (go_quiet (fail); try go_wp2)
   go_ret
   exact ⟨wQ, by repeat (first | (with_reducible first | exact HI0.out | apply IsS80.alloc | apply IsS80.drewN | apply IsS80.drew | apply IsS80.set_1 | apply IsS80.set_2) | exact HI0.out), by repeat (first | (with_reducible first | exact HB.out | apply pA | apply pN | apply pD | refine pS ?_ (IsS80.ge HI0.out)) | exact HB.out), by repeat (first | (with_reducible first | exact HK.out | apply KeepBut.set_ | apply keep_drewN | apply keep_drew | apply keep_alloc) | exact HK.out)⟩
  ·rw [if_neg c7] at H; have c7b0 := decide_eq_false c7; clear c7
   simp only [Option.some.injEq, Prod.mk.injEq] at H
   obtain ⟨rfl, rfl, rfl⟩ := H; obtain ⟨ASz9_0, cSz9_0, HGz9, hgz9, HSz9_0⟩ := HI0.out; have hcz9_0 := cellS80_0 HGz9; have hcz9_1 := cellS80_1 HGz9; have hcz9_2 := cellS80_2 HGz9; have hfz9_1 := kF HGz9 1; have hfz9_2 := kF HGz9 2; clear HGz9 hgz9
   go_enter Try.func88, Try.ntmps88
   go_wp2
   repeat (go_quiet (fail); try go_wp2)
   go_ret
   exact ⟨wQ, by repeat (first | (with_reducible first | exact HI0.out | apply IsS80.alloc | apply IsS80.drewN | apply IsS80.drew | apply IsS80.set_1 | apply IsS80.set_2) | exact HI0.out), by repeat (first | (with_reducible first | exact HB.out | apply pA | apply pN | apply pD | refine pS ?_ (IsS80.ge HI0.out)) | exact HB.out), by repeat (first | (with_reducible first | exact HK.out | apply KeepBut.set_ | apply keep_drewN | apply keep_drew | apply keep_alloc) | exact HK.out)⟩

def impl_within.f (a0 : Int) (a1 : Int) (a2 : Int) : Option (Bool) := if a0 ≥ a1 then (some (decide (a0 ≤ a2))) else (some false)
set_option maxHeartbeats 8000000 in
set_option maxRecDepth 100000 in
theorem impl_within.calls (a0 : Int) (a1 : Int) (a2 : Int) (r : Bool) (w : World) (h : impl_within.f a0 a1 a2 = some r) :
  Calls Try.prog 54 #[.int .i64 a0, .int .i64 a1, .int .i64 a2] w fun e w' => e = .returned (.bool r) ∧ Drawn0 w w' := by
 unfold impl_within.f at h; have H := h; clear h
 by_cases c4 : a0 ≥ a1
 ·rw [if_pos c4] at H; have c4b0 := dE c4; clear c4; obtain rfl := Option.some.inj H
  go_enter Try.func54, Try.ntmps54
  go_wp2
  go_ret
  exact ⟨eQ, dQ⟩
 ·rw [if_neg c4] at H; have c4b0 := decide_eq_false c4; clear c4; obtain rfl := Option.some.inj H
  go_enter Try.func54, Try.ntmps54
  go_wp2
  go_ret
  exact ⟨eQ, dQ⟩

def impl_isSide.f (a0 : Int) : Option (Bool) := (impl_within.f a0 1 12).bind fun t102 => (some t102)
set_option maxHeartbeats 8000000 in
set_option maxRecDepth 100000 in
theorem impl_isSide.calls (a0 : Int) (r : Bool) (w : World) (h : impl_isSide.f a0 = some r) :
  Calls Try.prog 62 #[.int .i64 a0] w fun e w' => e = .returned (.bool r) ∧ Drawn0 w w' := by
 unfold impl_isSide.f at h; have H := h; clear h
 replace H := bS H; obtain ⟨t102, A2, H⟩ := H; obtain rfl := Option.some.inj H
 go_enter Try.func62, Try.ntmps62
 go_wp2_with (first | ((with_reducible refine gC (f := 54) rfl ?_); refine goesL_ (some 4) rfl rfl Try.func54 kR rfl #[.int .i64 a0, .int .i64 1, .int .i64 12] rfl sQ ?_; (with_reducible refine (impl_within.calls a0 1 12 t102 _ A2.out).mono ?_); rintro e w' ⟨rfl, ⟨nd, rfl⟩⟩; refine ⟨_, rfl, ?_⟩))
 go_ret
 exact ⟨eQ, dQ⟩

def impl_isOnBoard.f (a0 : Int) (a1 : Int) (a2_0 : Int) (a2_1 : Int) : Option (Bool) := (impl_within.f a2_0 0 (wrap64 (a0 - 1))).bind fun t104 => (if t104 = true then ((impl_within.f a2_1 0 (wrap64 (a1 - 1))).bind fun t105 => (some t105)) else (some false))
set_option maxHeartbeats 8000000 in
set_option maxRecDepth 100000 in
theorem impl_isOnBoard.calls (a0 : Int) (a1 : Int) (a2_0 : Int) (a2_1 : Int) (r : Bool) (w : World) (h : impl_isOnBoard.f a0 a1 a2_0 a2_1 = some r) :
  Calls Try.prog 89 #[.int .i64 a0, .int .i64 a1, .agg #[.int .i64 a2_0, .int .i64 a2_1]] w fun e w' => e = .returned (.bool r) ∧ Below w.heap.size w w' := by
 have hu41 := Try.underlying41; have HB := aM (Below.refl w.heap.size w)
 unfold impl_isOnBoard.f at h; have H := h; clear h
 replace H := bS H; obtain ⟨t104, A4, H⟩ := H
 by_cases c5 : t104 = true
 ·subst c5; replace H := iT H; replace H := bS H; obtain ⟨t105, A6, H⟩ := H; obtain rfl := Option.some.inj H
  go_enter Try.func89, Try.ntmps89
  go_wp2_with (first | ((with_reducible refine gate_dst (N := 5) rfl ?_); refine bV 5 (cs := #[.int .i64 a2_0, .int .i64 a2_1]) (t := 41) rfl rfl (by first | (go_simp; done) | (go_simp; rfl)) ?_; intro gb103 hg w7 hbox hb; have BK103 := hbox; have GW103 := gZ HB hg; have GE103 := gZ HB hg; replace HB := tB HB hb; clear hb hbox hg; have hcz8_0 := vZ0 BK103; have hcz8_1 := vZ1 BK103; have hfz8_0 := kF BK103.out 0; have hfz8_1 := kF BK103.out 1) | ((with_reducible refine gC (f := 54) rfl ?_); refine goesL_ (some 11) rfl rfl Try.func54 kR rfl #[.int .i64 a2_0, .int .i64 0, .int .i64 (wrap64 (a0 - 1))] rfl sQ ?_; (with_reducible refine (impl_within.calls a2_0 0 (wrap64 (a0 - 1)) true _ A4.out).mono ?_); rintro e w' ⟨rfl, ⟨nd, rfl⟩⟩; refine ⟨_, rfl, ?_⟩) | (go_at_call 54; (with_reducible refine (impl_within.calls a2_1 0 (wrap64 (a1 - 1)) t105 _ A6.out).mono ?_); rintro e w' ⟨rfl, ⟨nd, rfl⟩⟩))
  go_ret
  exact ⟨wQ, bE⟩
 ·replace c5 := Bool.eq_false_iff.mpr c5; subst c5; replace H := iF H; obtain rfl := Option.some.inj H
  go_enter Try.func89, Try.ntmps89
  go_wp2_with (first | ((with_reducible refine gate_dst (N := 5) rfl ?_); refine bV 5 (cs := #[.int .i64 a2_0, .int .i64 a2_1]) (t := 41) rfl rfl (by first | (go_simp; done) | (go_simp; rfl)) ?_; intro gb103 hg w9 hbox hb; have BK103 := hbox; have GW103 := gZ HB hg; have GE103 := gZ HB hg; replace HB := tB HB hb; clear hb hbox hg; have hcz10_0 := vZ0 BK103; have hcz10_1 := vZ1 BK103; have hfz10_0 := kF BK103.out 0; have hfz10_1 := kF BK103.out 1) | ((with_reducible refine gC (f := 54) rfl ?_); refine goesL_ (some 11) rfl rfl Try.func54 kR rfl #[.int .i64 a2_0, .int .i64 0, .int .i64 (wrap64 (a0 - 1))] rfl sQ ?_; (with_reducible refine (impl_within.calls a2_0 0 (wrap64 (a0 - 1)) false _ A4.out).mono ?_); rintro e w' ⟨rfl, ⟨nd, rfl⟩⟩; refine ⟨_, rfl, ?_⟩))
  go_ret
  exact ⟨wQ, bE⟩

def impl_isHidden.f (a0 : Int) (a1_0 : Int) (a1_1 : Int) : Option (Bool) := (impl_isSide.f a0).bind fun t107 => (if t107 = true then ((impl_isOnBoard.f (wrap64 (a0 + 1)) (wrap64 (a0 + 1)) a1_0 a1_1).bind fun t108 => (some t108)) else (some false))
set_option maxHeartbeats 8000000 in
set_option maxRecDepth 100000 in
theorem impl_isHidden.calls (a0 : Int) (a1_0 : Int) (a1_1 : Int) (r : Bool) (w : World) (h : impl_isHidden.f a0 a1_0 a1_1 = some r) :
  Calls Try.prog 53 #[.int .i64 a0, .agg #[.int .i64 a1_0, .int .i64 a1_1]] w fun e w' => e = .returned (.bool r) ∧ Below w.heap.size w w' := by
 have hu41 := Try.underlying41; have HB := aM (Below.refl w.heap.size w)
 unfold impl_isHidden.f at h; have H := h; clear h
 replace H := bS H; obtain ⟨t107, A3, H⟩ := H
 by_cases c4 : t107 = true
 ·subst c4; replace H := iT H; replace H := bS H; obtain ⟨t108, A5, H⟩ := H; obtain rfl := Option.some.inj H
  go_enter Try.func53, Try.ntmps53
  go_wp2_with (first | ((with_reducible refine gate_dst (N := 3) rfl ?_); refine bV 3 (cs := #[.int .i64 a1_0, .int .i64 a1_1]) (t := 41) rfl rfl (by first | (go_simp; done) | (go_simp; rfl)) ?_; intro gb106 hg w6 hbox hb; have BK106 := hbox; have GW106 := gZ HB hg; have GE106 := gZ HB hg; replace HB := tB HB hb; clear hb hbox hg) | ((with_reducible refine gC (f := 62) rfl ?_); refine goesL_ (some 6) rfl rfl Try.func62 kR rfl #[.int .i64 a0] rfl sQ ?_; (with_reducible refine (impl_isSide.calls a0 true _ A3.out).mono ?_); rintro e w' ⟨rfl, ⟨nd, rfl⟩⟩; refine ⟨_, rfl, ?_⟩; have hcz7_0 := vZ0 BK106; have hcz7_1 := vZ1 BK106; have hfz7_0 := kF BK106.out 0; have hfz7_1 := kF BK106.out 1) | (go_at_call 89; (with_reducible refine (impl_isOnBoard.calls (wrap64 (a0 + 1)) (wrap64 (a0 + 1)) a1_0 a1_1 t108 _ A5.out).mono ?_); rintro e w8 ⟨rfl, hb⟩; replace BK106 := bB BK106 hb; replace HB := tB HB hb; (try clear hb); (try clear hb2); (try clear hk); (try clear hi)))
  go_ret
  exact ⟨wQ, bE⟩
 ·replace c4 := Bool.eq_false_iff.mpr c4; subst c4; replace H := iF H; obtain rfl := Option.some.inj H
  go_enter Try.func53, Try.ntmps53
  go_wp2_with (first | ((with_reducible refine gate_dst (N := 3) rfl ?_); refine bV 3 (cs := #[.int .i64 a1_0, .int .i64 a1_1]) (t := 41) rfl rfl (by first | (go_simp; done) | (go_simp; rfl)) ?_; intro gb106 hg w9 hbox hb; have BK106 := hbox; have GW106 := gZ HB hg; have GE106 := gZ HB hg; replace HB := tB HB hb; clear hb hbox hg) | ((with_reducible refine gC (f := 62) rfl ?_); refine goesL_ (some 6) rfl rfl Try.func62 kR rfl #[.int .i64 a0] rfl sQ ?_; (with_reducible refine (impl_isSide.calls a0 false _ A3.out).mono ?_); rintro e w' ⟨rfl, ⟨nd, rfl⟩⟩; refine ⟨_, rfl, ?_⟩))
  go_ret
  exact ⟨wQ, bE⟩

def impl_size.f (a0 : Int) : Option (Int) := some (mx a0 (wrap64 (-a0)))
set_option maxHeartbeats 8000000 in
set_option maxRecDepth 100000 in
theorem impl_size.calls (a0 : Int) (r : Int) (w : World) (h : impl_size.f a0 = some r) :
  Calls Try.prog 90 #[.int .i64 a0] w fun e w' => e = .returned (.int .i64 r) ∧ Below w.heap.size w w' := by
 have HB := aM (Below.refl w.heap.size w)
 unfold impl_size.f at h; have H := h; clear h
 obtain ⟨ji2, hji2⟩ : ∃ j_ : Int, (mx a0 (wrap64 (-a0))) = j_ := ⟨_, rfl⟩
 (first | rw [hji2] at H | simp only [hji2] at H)
 have hji2_ : (if a0 < (wrap64 (-a0)) then (wrap64 (-a0)) else a0) = ji2 := hji2; obtain rfl := Option.some.inj H
 go_enter Try.func90, Try.ntmps90
 go_wp2
 go_ret
 exact ⟨by first | rfl | (simp [errW_none, errW_some] <;> rfl) | (simp only [← hji2]; first | rfl | (simp [errW_none, errW_some] <;> rfl)) | (simp [*, errW_none, errW_some] <;> rfl), bQ⟩

def impl_divisor.l0 : Nat → Int → Int → Option (Int)
 | 0, _, _ => none
 | k + 1, x0, x1 => if x1 = 0 then ((impl_size.f x0).bind fun t109 => (some t109)) else (impl_divisor.l0 k x1 (Int.tmod x0 x1))
def impl_divisor.f (k : Nat) (a0 : Int) (a1 : Int) : Option (Int) := impl_divisor.l0 k a0 a1
theorem impl_divisor.mono_l : ∀ k, (∀ y0 y1, LeO (impl_divisor.l0 k y0 y1) (impl_divisor.l0 (k + 1) y0 y1))
 | 0 => fun _ _ r h => by simp [impl_divisor.l0] at h
 | k + 1 => by
  have ih0 := impl_divisor.mono_l k
  ·intro y0 y1
   unfold impl_divisor.l0
   repeat' first
   | (with_reducible exact ih0 _ _)
   | (with_reducible exact LeO.refl _)
   | (with_reducible exact LeO.none _)
   | (with_reducible refine LeO.ite ?_ ?_)
   | (with_reducible refine LeO.bind ?_ (fun _ => ?_))
   | exact ih0 _ _
   | exact LeO.none _
   | refine LeO.ite ?_ ?_
   | refine LeO.bind ?_ (fun _ => ?_)
theorem impl_divisor.mono : ∀ a0 a1 k, LeO (impl_divisor.f k a0 a1) (impl_divisor.f (k + 1) a0 a1) := by
 intro a0 a1 k
 have ih0 := impl_divisor.mono_l k
 unfold impl_divisor.f
 repeat' first | (with_reducible exact ih0 _ _) | (with_reducible exact LeO.refl _) | (with_reducible exact LeO.none _) | (with_reducible refine LeO.ite ?_ ?_) | (with_reducible refine LeO.bind ?_ (fun _ => ?_)) | exact ih0 _ _ | exact LeO.none _ | refine LeO.ite ?_ ?_ | refine LeO.bind ?_ (fun _ => ?_)
set_option maxHeartbeats 8000000 in
set_option maxRecDepth 100000 in
theorem impl_divisor.calls (k : Nat) (a0 : Int) (a1 : Int) (r : Int) (w : World) (h : impl_divisor.f k a0 a1 = some r) :
  Calls Try.prog 105 #[.int .i64 a0, .int .i64 a1] w fun e w' => e = .returned (.int .i64 r) ∧ Below w.heap.size w w' := by
 have HB := aM (Below.refl w.heap.size w)
 unfold impl_divisor.f at h; have H := h; clear h
 have H' := aM H; clear H
 go_enter Try.func105, Try.ntmps105
 go_wp2
 repeat (go_quiet (fail); try go_wp2)
 go_loopg [0, 1] k (fun kq v0 v1 w' => ∃ (x0_1 : Int) (x1_1 : Int), v0 = .int .i64 x0_1 ∧ v1 = .int .i64 x1_1 ∧ Aside0 (impl_divisor.l0 kq x0_1 x1_1 = some r) ∧ Aside0 (kq ≤ k) ∧ Aside0 (Below w.heap.size w w'))
 case atStart => exact ⟨(a0), (a1), eQ, eQ, H', ⟨Nat.le_refl _⟩, ⟨bQ⟩⟩
 case round =>
  clear H'; obtain ⟨x0_1, x1_1, rfl, rfl, HA, HK1, HB⟩ := hrel
  cases gk with
  | zero => exact absurd HA.out (by simp [impl_divisor.l0])
  | succ k1 =>
   have H := HA.out; clear HA
   simp only [impl_divisor.l0] at H
   by_cases c3 : x1_1 = 0
   ·rw [if_pos c3] at H; have c3b0 : (x1_1 == 0) = true := beq_iff_eq.mpr c3; have c3b1 : (x1_1 != 0) = false := bne_eq_false_iff_eq.mpr c3; clear c3; replace H := bS H; obtain ⟨t109, A4, H⟩ := H; obtain rfl := Option.some.inj H
    go_wp2_with (first | (go_at_call 90; (with_reducible refine (impl_size.calls x0_1 t109 _ A4.out).mono ?_); rintro e w5 ⟨rfl, hb⟩; replace HB := tB HB hb; (try clear hb); (try clear hb2); (try clear hk); (try clear hi)))
    repeat (go_quiet (first | (go_at_call 90; (with_reducible refine (impl_size.calls x0_1 t109 _ A4.out).mono ?_); rintro e w5 ⟨rfl, hb⟩; have n0_ := tB HB hb; clear HB; have HB := n0_; clear n0_; (try clear hb); (try clear hb2); (try clear hk); (try clear hi))); try go_wp2_with (first | (go_at_call 90; (with_reducible refine (impl_size.calls x0_1 t109 _ A4.out).mono ?_); rintro e w5 ⟨rfl, hb⟩; have n0_ := tB HB hb; clear HB; have HB := n0_; clear n0_; (try clear hb); (try clear hb2); (try clear hk); (try clear hi))))
    go_ret
    exact ⟨wQ, bQ⟩
   ·rw [if_neg c3] at H; have c3b0 : (x1_1 == 0) = false := beq_eq_false_iff_ne.mpr c3; have c3b1 : (x1_1 != 0) = true := bne_iff_ne.mpr c3; have H' := aM H; clear H; go_wp2
    repeat (go_quiet (fail); try go_wp2)
    go_roundg k1
    case measure => have := HK1.out; omega
    case rel => exact ⟨(x1_1), (Int.tmod x0_1 x1_1), eQ, eQ, H', ⟨by have := HK1.out; omega⟩, ⟨bQ⟩⟩

def impl_steps.f (k : Nat) (a0_0 : Int) (a0_1 : Int) (a1_0 : Int) (a1_1 : Int) : Option (Int) := (impl_divisor.f k (wrap64 (a0_0 - a1_0)) (wrap64 (a0_1 - a1_1))).bind fun t112 => (some t112)
theorem impl_steps.mono : ∀ a0 a1 a2 a3 k, LeO (impl_steps.f k a0 a1 a2 a3) (impl_steps.f (k + 1) a0 a1 a2 a3) := by
 intro a0 a1 a2 a3 k
 unfold impl_steps.f
 repeat' first | (with_reducible exact impl_divisor.mono _ _ _) | (with_reducible exact LeO.refl _) | (with_reducible exact LeO.none _) | (with_reducible refine LeO.ite ?_ ?_) | (with_reducible refine LeO.bind ?_ (fun _ => ?_)) | exact impl_divisor.mono _ _ _ | exact LeO.none _ | refine LeO.ite ?_ ?_ | refine LeO.bind ?_ (fun _ => ?_)
set_option maxHeartbeats 8000000 in
set_option maxRecDepth 100000 in
theorem impl_steps.calls (k : Nat) (a0_0 : Int) (a0_1 : Int) (a1_0 : Int) (a1_1 : Int) (r : Int) (w : World) (h : impl_steps.f k a0_0 a0_1 a1_0 a1_1 = some r) :
  Calls Try.prog 78 #[.agg #[.int .i64 a0_0, .int .i64 a0_1], .agg #[.int .i64 a1_0, .int .i64 a1_1]] w fun e w' => e = .returned (.int .i64 r) ∧ Below w.heap.size w w' := by
 have hu41 := Try.underlying41; have HB := aM (Below.refl w.heap.size w)
 unfold impl_steps.f at h; have H := h; clear h
 replace H := bS H; obtain ⟨t112, A3, H⟩ := H; obtain rfl := Option.some.inj H
 go_enter Try.func78, Try.ntmps78
 go_wp2_with (first | ((with_reducible refine gate_dst (N := 2) rfl ?_); refine bV 2 (cs := #[.int .i64 a0_0, .int .i64 a0_1]) (t := 41) rfl rfl (by first | (go_simp; done) | (go_simp; rfl)) ?_; intro gb110 hg w4 hbox hb; have BK110 := hbox; have GW110 := gZ HB hg; have GE110 := gZ HB hg; replace HB := tB HB hb; clear hb hbox hg) | ((with_reducible refine gate_dst (N := 3) rfl ?_); refine bV 3 (cs := #[.int .i64 a1_0, .int .i64 a1_1]) (t := 41) rfl rfl (by first | (go_simp; done) | (go_simp; rfl)) ?_; intro gb111 hg w5 hbox hb; have BK111 := hbox; have GW111 := gZ HB hg; have GE111 := gZ HB hg; have NB110_111 := nG BK110 hg; have NB111_110 := nH BK110 hg; replace BK110 := bB BK110 hb; replace HB := tB HB hb; clear hb hbox hg; have hnb6 := NB110_111.out; have hnc6 := NB111_110.out; have hcz7_0 := vZ0 BK110; have hcz7_1 := vZ1 BK110; have hfz7_0 := kF BK110.out 0; have hfz7_1 := kF BK110.out 1; have hcz8_0 := vZ0 BK111; have hcz8_1 := vZ1 BK111; have hfz8_0 := kF BK111.out 0; have hfz8_1 := kF BK111.out 1) | ((with_reducible refine gC (f := 105) rfl ?_); refine goesL_ (some 15) rfl rfl Try.func105 kR rfl #[.int .i64 (wrap64 (a0_0 - a1_0)), .int .i64 (wrap64 (a0_1 - a1_1))] rfl sQ ?_; (with_reducible refine (impl_divisor.calls k (wrap64 (a0_0 - a1_0)) (wrap64 (a0_1 - a1_1)) t112 _ A3.out).mono ?_); rintro e w9 ⟨rfl, hb⟩; refine ⟨_, rfl, ?_⟩; replace BK110 := bB BK110 hb; replace BK111 := bB BK111 hb; replace HB := tB HB hb; (try clear hb); (try clear hb2); (try clear hk); (try clear hi)))
 go_ret
 exact ⟨wQ, bE⟩

def impl_cross.f (a0_0 : Int) (a0_1 : Int) (a1_0 : Int) (a1_1 : Int) : Option (Int) := some (wrap64 ((wrap64 (a0_0 * a1_1)) - (wrap64 (a0_1 * a1_0))))
set_option maxHeartbeats 8000000 in
set_option maxRecDepth 100000 in
theorem impl_cross.calls (a0_0 : Int) (a0_1 : Int) (a1_0 : Int) (a1_1 : Int) (r : Int) (w : World) (h : impl_cross.f a0_0 a0_1 a1_0 a1_1 = some r) :
  Calls Try.prog 91 #[.agg #[.int .i64 a0_0, .int .i64 a0_1], .agg #[.int .i64 a1_0, .int .i64 a1_1]] w fun e w' => e = .returned (.int .i64 r) ∧ Below w.heap.size w w' := by
 have hu41 := Try.underlying41; have HB := aM (Below.refl w.heap.size w)
 unfold impl_cross.f at h; have H := h; clear h
 obtain rfl := Option.some.inj H
 go_enter Try.func91, Try.ntmps91
 go_wp2_with (first | ((with_reducible refine gate_dst (N := 2) rfl ?_); refine bV 2 (cs := #[.int .i64 a0_0, .int .i64 a0_1]) (t := 41) rfl rfl (by first | (go_simp; done) | (go_simp; rfl)) ?_; intro gb113 hg w3 hbox hb; have BK113 := hbox; have GW113 := gZ HB hg; have GE113 := gZ HB hg; replace HB := tB HB hb; clear hb hbox hg) | ((with_reducible refine gate_dst (N := 3) rfl ?_); refine bV 3 (cs := #[.int .i64 a1_0, .int .i64 a1_1]) (t := 41) rfl rfl (by first | (go_simp; done) | (go_simp; rfl)) ?_; intro gb114 hg w4 hbox hb; have BK114 := hbox; have GW114 := gZ HB hg; have GE114 := gZ HB hg; have NB113_114 := nG BK113 hg; have NB114_113 := nH BK113 hg; replace BK113 := bB BK113 hb; replace HB := tB HB hb; clear hb hbox hg; have hnb5 := NB113_114.out; have hnc5 := NB114_113.out; have hcz6_0 := vZ0 BK113; have hcz6_1 := vZ1 BK113; have hfz6_0 := kF BK113.out 0; have hfz6_1 := kF BK113.out 1; have hcz7_0 := vZ0 BK114; have hcz7_1 := vZ1 BK114; have hfz7_0 := kF BK114.out 0; have hfz7_1 := kF BK114.out 1))
 go_ret
 exact ⟨wQ, bE⟩

def impl_Peg_less.f (a0_0 : Int) (a0_1 : Int) (a1_0 : Int) (a1_1 : Int) : Option (Int × Int) := some (wrap64 (a0_0 - a1_0), wrap64 (a0_1 - a1_1))
set_option maxHeartbeats 8000000 in
set_option maxRecDepth 100000 in
theorem impl_Peg_less.calls (a0_0 : Int) (a0_1 : Int) (a1_0 : Int) (a1_1 : Int) (r1 : Int) (r2 : Int) (w : World) (h : impl_Peg_less.f a0_0 a0_1 a1_0 a1_1 = some (r1, r2)) :
  Calls Try.prog 92 #[.agg #[.int .i64 a0_0, .int .i64 a0_1], .agg #[.int .i64 a1_0, .int .i64 a1_1]] w fun e w' => e = .returned (.agg #[.int .i64 r1, .int .i64 r2]) ∧ Below w.heap.size w w' := by
 have hu41 := Try.underlying41; have HB := aM (Below.refl w.heap.size w)
 unfold impl_Peg_less.f at h; have H := h; clear h
 simp only [Option.some.injEq, Prod.mk.injEq] at H
 obtain ⟨rfl, rfl⟩ := H
 go_enter Try.func92, Try.ntmps92
 go_wp2_with (first | ((with_reducible refine gate_dst (N := 2) rfl ?_); refine bV 2 (cs := #[.int .i64 a0_0, .int .i64 a0_1]) (t := 41) rfl rfl (by first | (go_simp; done) | (go_simp; rfl)) ?_; intro gb115 hg w3 hbox hb; have BK115 := hbox; have GW115 := gZ HB hg; have GE115 := gZ HB hg; replace HB := tB HB hb; clear hb hbox hg) | ((with_reducible refine gate_dst (N := 3) rfl ?_); refine bV 3 (cs := #[.int .i64 a1_0, .int .i64 a1_1]) (t := 41) rfl rfl (by first | (go_simp; done) | (go_simp; rfl)) ?_; intro gb116 hg w4 hbox hb; have BK116 := hbox; have GW116 := gZ HB hg; have GE116 := gZ HB hg; have NB115_116 := nG BK115 hg; have NB116_115 := nH BK115 hg; replace BK115 := bB BK115 hb; replace HB := tB HB hb; clear hb hbox hg) | ((with_reducible refine gate_dst (N := 4) rfl ?_); refine bV 4 (cs := #[.int .i64 0, .int .i64 0]) (t := 41) rfl rfl (by first | (go_simp; done) | (go_simp; rfl)) ?_; intro gb117 hg w5 hbox hb; have BK117 := hbox; have GW117 := gZ HB hg; have GE117 := gZ HB hg; have NB115_117 := nG BK115 hg; have NB117_115 := nH BK115 hg; have NB116_117 := nG BK116 hg; have NB117_116 := nH BK116 hg; replace BK115 := bB BK115 hb; replace BK116 := bB BK116 hb; replace HB := tB HB hb; clear hb hbox hg; have hnb6 := NB115_116.out; have hnc6 := NB116_115.out; have hnb7 := NB115_117.out; have hnc7 := NB117_115.out; have hcz8_0 := vZ0 BK115; have hcz8_1 := vZ1 BK115; have hfz8_0 := kF BK115.out 0; have hfz8_1 := kF BK115.out 1; have hnb9 := NB116_117.out; have hnc9 := NB117_116.out; have hcz10_0 := vZ0 BK116; have hcz10_1 := vZ1 BK116; have hfz10_0 := kF BK116.out 0; have hfz10_1 := kF BK116.out 1; have hcz11_0 := vZ0 BK117; have hcz11_1 := vZ1 BK117; have hfz11_0 := kF BK117.out 0; have hfz11_1 := kF BK117.out 1))
 refine bodyPost_ret (results_cell_row rfl _ _ gb117 41 #[.int .i64 (wrap64 (a0_0 - a1_0)), .int .i64 (wrap64 (a0_1 - a1_1))] (0, 0) _ rfl (fQ BK117) Try.underlying41 rfl kR) rfl ?_
 exact ⟨wQ, bE⟩

def impl_Peg_square.f (a0_0 : Int) (a0_1 : Int) : Option (Int) := some (wrap64 ((wrap64 (a0_0 * a0_0)) + (wrap64 (a0_1 * a0_1))))
set_option maxHeartbeats 8000000 in
set_option maxRecDepth 100000 in
theorem impl_Peg_square.calls (a0_0 : Int) (a0_1 : Int) (r : Int) (w : World) (h : impl_Peg_square.f a0_0 a0_1 = some r) :
  Calls Try.prog 93 #[.agg #[.int .i64 a0_0, .int .i64 a0_1]] w fun e w' => e = .returned (.int .i64 r) ∧ Below w.heap.size w w' := by
 have hu41 := Try.underlying41; have HB := aM (Below.refl w.heap.size w)
 unfold impl_Peg_square.f at h; have H := h; clear h
 obtain rfl := Option.some.inj H
 go_enter Try.func93, Try.ntmps93
 go_wp2_with (first | ((with_reducible refine gate_dst (N := 1) rfl ?_); refine bV 1 (cs := #[.int .i64 a0_0, .int .i64 a0_1]) (t := 41) rfl rfl (by first | (go_simp; done) | (go_simp; rfl)) ?_; intro gb118 hg w2 hbox hb; have BK118 := hbox; have GW118 := gZ HB hg; have GE118 := gZ HB hg; replace HB := tB HB hb; clear hb hbox hg; have hcz3_0 := vZ0 BK118; have hcz3_1 := vZ1 BK118; have hfz3_0 := kF BK118.out 0; have hfz3_1 := kF BK118.out 1))
 go_ret
 exact ⟨wQ, bE⟩

def impl_asHas.f (k : Nat) (a0_0 : Int) (a0_1 : Int) (a0_2 : Int) (a0_3 : Int) (a1_0 : Int) (a1_1 : Int) : Option (Int × Int × Int × Int) := if a0_0 = 0 then (some (a0_0, a1_0, a0_2, a0_3)) else (if a0_0 = 1 then (some (a0_0, a1_1, a0_2, a0_3)) else (if a0_0 = 2 then (some (a0_0, wrap64 (a1_0 + a1_1), a0_2, a0_3)) else (if a0_0 = 3 then ((impl_cross.f a0_1 a0_2 a1_0 a1_1).bind fun t123 => ((impl_size.f t123).bind fun t124 => (some (a0_0, a0_1, a0_2, t124)))) else (if a0_0 = 4 then ((impl_Peg_less.f a1_0 a1_1 a0_1 a0_2).bind fun bt125 => ((impl_Peg_square.f bt125.1 bt125.2).bind fun t127 => (some (a0_0, a0_1, a0_2, t127)))) else ((impl_steps.f k a1_0 a1_1 a0_1 a0_2).bind fun t128 => (if t128 < 2 then (some (a0_0, a0_1, a0_2, 1)) else (some (a0_0, a0_1, a0_2, 0))))))))
theorem impl_asHas.mono : ∀ a0 a1 a2 a3 a4 a5 k, LeO (impl_asHas.f k a0 a1 a2 a3 a4 a5) (impl_asHas.f (k + 1) a0 a1 a2 a3 a4 a5) := by
 intro a0 a1 a2 a3 a4 a5 k
 unfold impl_asHas.f
 repeat' first | (with_reducible exact impl_steps.mono _ _ _ _ _) | (with_reducible exact LeO.refl _) | (with_reducible exact LeO.none _) | (with_reducible refine LeO.ite ?_ ?_) | (with_reducible refine LeO.bind ?_ (fun _ => ?_)) | exact impl_steps.mono _ _ _ _ _ | exact LeO.none _ | refine LeO.ite ?_ ?_ | refine LeO.bind ?_ (fun _ => ?_)
set_option maxHeartbeats 8000000 in
set_option maxRecDepth 100000 in
theorem impl_asHas.calls (k : Nat) (a0_0 : Int) (a0_1 : Int) (a0_2 : Int) (a0_3 : Int) (a1_0 : Int) (a1_1 : Int) (r1 : Int) (r2 : Int) (r3 : Int) (r4 : Int) (w : World) (h : impl_asHas.f k a0_0 a0_1 a0_2 a0_3 a1_0 a1_1 = some (r1, r2, r3, r4)) :
  Calls Try.prog 56 #[.agg #[.int .i64 a0_0, .int .i64 a0_1, .int .i64 a0_2, .int .i64 a0_3], .agg #[.int .i64 a1_0, .int .i64 a1_1]] w fun e w' => e = .returned (.agg #[.int .i64 r1, .int .i64 r2, .int .i64 r3, .int .i64 r4]) ∧ Below w.heap.size w w' := by
 have hu48 := Try.underlying48; have hu41 := Try.underlying41; have HB := aM (Below.refl w.heap.size w)
 unfold impl_asHas.f at h; have H := h; clear h
 by_cases c3 : a0_0 = 0
 ·rw [if_pos c3] at H; have c3b0 : (a0_0 == 0) = true := beq_iff_eq.mpr c3; have c3b1 : (a0_0 != 0) = false := bne_eq_false_iff_eq.mpr c3; clear c3
  simp only [Option.some.injEq, Prod.mk.injEq] at H
  obtain ⟨rfl, rfl, rfl, rfl⟩ := H
  go_enter Try.func56, Try.ntmps56
  go_wp2_with (first | ((with_reducible refine gate_dst (N := 2) rfl ?_); refine bV 2 (cs := #[.int .i64 a0_0, .int .i64 a0_1, .int .i64 a0_2, .int .i64 a0_3]) (t := 48) rfl rfl (by first | (go_simp; done) | (go_simp; rfl)) ?_; intro gb119 hg w4 hbox hb; have BK119 := hbox; have GW119 := gZ HB hg; have GE119 := gZ HB hg; replace HB := tB HB hb; clear hb hbox hg) | ((with_reducible refine gate_dst (N := 3) rfl ?_); refine bV 3 (cs := #[.int .i64 a1_0, .int .i64 a1_1]) (t := 41) rfl rfl (by first | (go_simp; done) | (go_simp; rfl)) ?_; intro gb120 hg w5 hbox hb; have BK120 := hbox; have GW120 := gZ HB hg; have GE120 := gZ HB hg; have NB119_120 := nG BK119 hg; have NB120_119 := nH BK119 hg; replace BK119 := bB BK119 hb; replace HB := tB HB hb; clear hb hbox hg) | ((with_reducible refine gate_dst (N := 4) rfl ?_); refine bV 4 (cs := #[.int .i64 0, .int .i64 0, .int .i64 0, .int .i64 0]) (t := 48) rfl rfl (by first | (go_simp; done) | (go_simp; rfl)) ?_; intro gb121 hg w6 hbox hb; have BK121 := hbox; have GW121 := gZ HB hg; have GE121 := gZ HB hg; have NB119_121 := nG BK119 hg; have NB121_119 := nH BK119 hg; have NB120_121 := nG BK120 hg; have NB121_120 := nH BK120 hg; replace BK119 := bB BK119 hb; replace BK120 := bB BK120 hb; replace HB := tB HB hb; clear hb hbox hg; have hnb7 := NB119_120.out; have hnc7 := NB120_119.out; have hnb8 := NB119_121.out; have hnc8 := NB121_119.out; have hcz9_0 := vZ0 BK119; have hcz9_1 := vZ1 BK119; have hcz9_2 := vZ2 BK119; have hcz9_3 := vZ3 BK119; have hfz9_0 := kF BK119.out 0; have hfz9_1 := kF BK119.out 1; have hfz9_2 := kF BK119.out 2; have hfz9_3 := kF BK119.out 3) | ((with_reducible refine gate_dst (N := 5) rfl ?_); refine bV 5 (cs := #[.int .i64 0, .int .i64 0]) (t := 41) rfl rfl (by first | (go_simp; done) | (go_simp; rfl)) ?_; intro gb122 hg w10 hbox hb; have BK122 := hbox; have GW122 := gZ HB hg; have GE122 := gZ HB hg; have NB119_122 := nG BK119 hg; have NB122_119 := nH BK119 hg; have NB120_122 := nG BK120 hg; have NB122_120 := nH BK120 hg; have NB121_122 := nG BK121 hg; have NB122_121 := nH BK121 hg; replace BK119 := bB BK119 hb; replace BK120 := bB BK120 hb; replace BK121 := bB BK121 hb; replace HB := tB HB hb; clear hb hbox hg; have hnb11 := NB122_119.out; have hnc11 := NB119_122.out; have hnb12 := NB122_120.out; have hnc12 := NB120_122.out; have hnb13 := NB122_121.out; have hnc13 := NB121_122.out; have hcz14_0 := vZ0 BK122; have hcz14_1 := vZ1 BK122; have hfz14_0 := kF BK122.out 0; have hfz14_1 := kF BK122.out 1; have hcz15_0 := vZ0 BK119; have hcz15_1 := vZ1 BK119; have hcz15_2 := vZ2 BK119; have hcz15_3 := vZ3 BK119; have hfz15_0 := kF BK119.out 0; have hfz15_1 := kF BK119.out 1; have hfz15_2 := kF BK119.out 2; have hfz15_3 := kF BK119.out 3; have hnb16 := NB120_121.out; have hnc16 := NB121_120.out; have hcz17_0 := vZ0 BK120; have hcz17_1 := vZ1 BK120; have hfz17_0 := kF BK120.out 0; have hfz17_1 := kF BK120.out 1; have hcz18_0 := vZ0 BK121; have hcz18_1 := vZ1 BK121; have hcz18_2 := vZ2 BK121; have hcz18_3 := vZ3 BK121; have hfz18_0 := kF BK121.out 0; have hfz18_1 := kF BK121.out 1; have hfz18_2 := kF BK121.out 2; have hfz18_3 := kF BK121.out 3))
  refine bodyPost_ret (results_cell_row rfl _ _ gb121 48 #[.int .i64 a0_0, .int .i64 a1_0, .int .i64 a0_2, .int .i64 a0_3] (0, 0) _ rfl (fQ BK121) Try.underlying48 rfl kR) rfl ?_
  exact ⟨wQ, bE⟩
 ·rw [if_neg c3] at H; have c3b0 : (a0_0 == 0) = false := beq_eq_false_iff_ne.mpr c3; have c3b1 : (a0_0 != 0) = true := bne_iff_ne.mpr c3
  by_cases c19 : a0_0 = 1
  ·rw [if_pos c19] at H; have c19b0 : (a0_0 == 1) = true := beq_iff_eq.mpr c19; have c19b1 : (a0_0 != 1) = false := bne_eq_false_iff_eq.mpr c19; clear c19
   simp only [Option.some.injEq, Prod.mk.injEq] at H
   obtain ⟨rfl, rfl, rfl, rfl⟩ := H
   go_enter Try.func56, Try.ntmps56
   go_wp2_with (first | ((with_reducible refine gate_dst (N := 2) rfl ?_); refine bV 2 (cs := #[.int .i64 a0_0, .int .i64 a0_1, .int .i64 a0_2, .int .i64 a0_3]) (t := 48) rfl rfl (by first | (go_simp; done) | (go_simp; rfl)) ?_; intro gb119 hg w20 hbox hb; have BK119 := hbox; have GW119 := gZ HB hg; have GE119 := gZ HB hg; replace HB := tB HB hb; clear hb hbox hg) | ((with_reducible refine gate_dst (N := 3) rfl ?_); refine bV 3 (cs := #[.int .i64 a1_0, .int .i64 a1_1]) (t := 41) rfl rfl (by first | (go_simp; done) | (go_simp; rfl)) ?_; intro gb120 hg w21 hbox hb; have BK120 := hbox; have GW120 := gZ HB hg; have GE120 := gZ HB hg; have NB119_120 := nG BK119 hg; have NB120_119 := nH BK119 hg; replace BK119 := bB BK119 hb; replace HB := tB HB hb; clear hb hbox hg) | ((with_reducible refine gate_dst (N := 4) rfl ?_); refine bV 4 (cs := #[.int .i64 0, .int .i64 0, .int .i64 0, .int .i64 0]) (t := 48) rfl rfl (by first | (go_simp; done) | (go_simp; rfl)) ?_; intro gb121 hg w22 hbox hb; have BK121 := hbox; have GW121 := gZ HB hg; have GE121 := gZ HB hg; have NB119_121 := nG BK119 hg; have NB121_119 := nH BK119 hg; have NB120_121 := nG BK120 hg; have NB121_120 := nH BK120 hg; replace BK119 := bB BK119 hb; replace BK120 := bB BK120 hb; replace HB := tB HB hb; clear hb hbox hg; have hnb23 := NB119_120.out; have hnc23 := NB120_119.out; have hnb24 := NB119_121.out; have hnc24 := NB121_119.out; have hcz25_0 := vZ0 BK119; have hcz25_1 := vZ1 BK119; have hcz25_2 := vZ2 BK119; have hcz25_3 := vZ3 BK119; have hfz25_0 := kF BK119.out 0; have hfz25_1 := kF BK119.out 1; have hfz25_2 := kF BK119.out 2; have hfz25_3 := kF BK119.out 3) | ((with_reducible refine gate_dst (N := 5) rfl ?_); refine bV 5 (cs := #[.int .i64 0, .int .i64 0]) (t := 41) rfl rfl (by first | (go_simp; done) | (go_simp; rfl)) ?_; intro gb122 hg w26 hbox hb; have BK122 := hbox; have GW122 := gZ HB hg; have GE122 := gZ HB hg; have NB119_122 := nG BK119 hg; have NB122_119 := nH BK119 hg; have NB120_122 := nG BK120 hg; have NB122_120 := nH BK120 hg; have NB121_122 := nG BK121 hg; have NB122_121 := nH BK121 hg; replace BK119 := bB BK119 hb; replace BK120 := bB BK120 hb; replace BK121 := bB BK121 hb; replace HB := tB HB hb; clear hb hbox hg; have hnb27 := NB122_119.out; have hnc27 := NB119_122.out; have hnb28 := NB122_120.out; have hnc28 := NB120_122.out; have hnb29 := NB122_121.out; have hnc29 := NB121_122.out; have hcz30_0 := vZ0 BK122; have hcz30_1 := vZ1 BK122; have hfz30_0 := kF BK122.out 0; have hfz30_1 := kF BK122.out 1; have hcz31_0 := vZ0 BK119; have hcz31_1 := vZ1 BK119; have hcz31_2 := vZ2 BK119; have hcz31_3 := vZ3 BK119; have hfz31_0 := kF BK119.out 0; have hfz31_1 := kF BK119.out 1; have hfz31_2 := kF BK119.out 2; have hfz31_3 := kF BK119.out 3; have hnb32 := NB120_121.out; have hnc32 := NB121_120.out; have hcz33_0 := vZ0 BK120; have hcz33_1 := vZ1 BK120; have hfz33_0 := kF BK120.out 0; have hfz33_1 := kF BK120.out 1; have hcz34_0 := vZ0 BK121; have hcz34_1 := vZ1 BK121; have hcz34_2 := vZ2 BK121; have hcz34_3 := vZ3 BK121; have hfz34_0 := kF BK121.out 0; have hfz34_1 := kF BK121.out 1; have hfz34_2 := kF BK121.out 2; have hfz34_3 := kF BK121.out 3))
   refine bodyPost_ret (results_cell_row rfl _ _ gb121 48 #[.int .i64 a0_0, .int .i64 a1_1, .int .i64 a0_2, .int .i64 a0_3] (0, 0) _ rfl (fQ BK121) Try.underlying48 rfl kR) rfl ?_
   exact ⟨wQ, bE⟩
  ·rw [if_neg c19] at H; have c19b0 : (a0_0 == 1) = false := beq_eq_false_iff_ne.mpr c19; have c19b1 : (a0_0 != 1) = true := bne_iff_ne.mpr c19
   by_cases c35 : a0_0 = 2
   ·rw [if_pos c35] at H; have c35b0 : (a0_0 == 2) = true := beq_iff_eq.mpr c35; have c35b1 : (a0_0 != 2) = false := bne_eq_false_iff_eq.mpr c35; clear c35
    simp only [Option.some.injEq, Prod.mk.injEq] at H
    obtain ⟨rfl, rfl, rfl, rfl⟩ := H
    go_enter Try.func56, Try.ntmps56
    go_wp2_with (first | ((with_reducible refine gate_dst (N := 2) rfl ?_); refine bV 2 (cs := #[.int .i64 a0_0, .int .i64 a0_1, .int .i64 a0_2, .int .i64 a0_3]) (t := 48) rfl rfl (by first | (go_simp; done) | (go_simp; rfl)) ?_; intro gb119 hg w36 hbox hb; have BK119 := hbox; have GW119 := gZ HB hg; have GE119 := gZ HB hg; replace HB := tB HB hb; clear hb hbox hg) | ((with_reducible refine gate_dst (N := 3) rfl ?_); refine bV 3 (cs := #[.int .i64 a1_0, .int .i64 a1_1]) (t := 41) rfl rfl (by first | (go_simp; done) | (go_simp; rfl)) ?_; intro gb120 hg w37 hbox hb; have BK120 := hbox; have GW120 := gZ HB hg; have GE120 := gZ HB hg; have NB119_120 := nG BK119 hg; have NB120_119 := nH BK119 hg; replace BK119 := bB BK119 hb; replace HB := tB HB hb; clear hb hbox hg) | ((with_reducible refine gate_dst (N := 4) rfl ?_); refine bV 4 (cs := #[.int .i64 0, .int .i64 0, .int .i64 0, .int .i64 0]) (t := 48) rfl rfl (by first | (go_simp; done) | (go_simp; rfl)) ?_; intro gb121 hg w38 hbox hb; have BK121 := hbox; have GW121 := gZ HB hg; have GE121 := gZ HB hg; have NB119_121 := nG BK119 hg; have NB121_119 := nH BK119 hg; have NB120_121 := nG BK120 hg; have NB121_120 := nH BK120 hg; replace BK119 := bB BK119 hb; replace BK120 := bB BK120 hb; replace HB := tB HB hb; clear hb hbox hg; have hnb39 := NB119_120.out; have hnc39 := NB120_119.out; have hnb40 := NB119_121.out; have hnc40 := NB121_119.out; have hcz41_0 := vZ0 BK119; have hcz41_1 := vZ1 BK119; have hcz41_2 := vZ2 BK119; have hcz41_3 := vZ3 BK119; have hfz41_0 := kF BK119.out 0; have hfz41_1 := kF BK119.out 1; have hfz41_2 := kF BK119.out 2; have hfz41_3 := kF BK119.out 3) | ((with_reducible refine gate_dst (N := 5) rfl ?_); refine bV 5 (cs := #[.int .i64 0, .int .i64 0]) (t := 41) rfl rfl (by first | (go_simp; done) | (go_simp; rfl)) ?_; intro gb122 hg w42 hbox hb; have BK122 := hbox; have GW122 := gZ HB hg; have GE122 := gZ HB hg; have NB119_122 := nG BK119 hg; have NB122_119 := nH BK119 hg; have NB120_122 := nG BK120 hg; have NB122_120 := nH BK120 hg; have NB121_122 := nG BK121 hg; have NB122_121 := nH BK121 hg; replace BK119 := bB BK119 hb; replace BK120 := bB BK120 hb; replace BK121 := bB BK121 hb; replace HB := tB HB hb; clear hb hbox hg; have hnb43 := NB122_119.out; have hnc43 := NB119_122.out; have hnb44 := NB122_120.out; have hnc44 := NB120_122.out; have hnb45 := NB122_121.out; have hnc45 := NB121_122.out; have hcz46_0 := vZ0 BK122; have hcz46_1 := vZ1 BK122; have hfz46_0 := kF BK122.out 0; have hfz46_1 := kF BK122.out 1; have hcz47_0 := vZ0 BK119; have hcz47_1 := vZ1 BK119; have hcz47_2 := vZ2 BK119; have hcz47_3 := vZ3 BK119; have hfz47_0 := kF BK119.out 0; have hfz47_1 := kF BK119.out 1; have hfz47_2 := kF BK119.out 2; have hfz47_3 := kF BK119.out 3; have hnb48 := NB120_121.out; have hnc48 := NB121_120.out; have hcz49_0 := vZ0 BK120; have hcz49_1 := vZ1 BK120; have hfz49_0 := kF BK120.out 0; have hfz49_1 := kF BK120.out 1; have hcz50_0 := vZ0 BK121; have hcz50_1 := vZ1 BK121; have hcz50_2 := vZ2 BK121; have hcz50_3 := vZ3 BK121; have hfz50_0 := kF BK121.out 0; have hfz50_1 := kF BK121.out 1; have hfz50_2 := kF BK121.out 2; have hfz50_3 := kF BK121.out 3))
    refine bodyPost_ret (results_cell_row rfl _ _ gb121 48 #[.int .i64 a0_0, .int .i64 (wrap64 (a1_0 + a1_1)), .int .i64 a0_2, .int .i64 a0_3] (0, 0) _ rfl (fQ BK121) Try.underlying48 rfl kR) rfl ?_
    exact ⟨wQ, bE⟩
   ·rw [if_neg c35] at H; have c35b0 : (a0_0 == 2) = false := beq_eq_false_iff_ne.mpr c35; have c35b1 : (a0_0 != 2) = true := bne_iff_ne.mpr c35
    by_cases c51 : a0_0 = 3
    ·rw [if_pos c51] at H; have c51b0 : (a0_0 == 3) = true := beq_iff_eq.mpr c51; have c51b1 : (a0_0 != 3) = false := bne_eq_false_iff_eq.mpr c51; clear c51; replace H := bS H; obtain ⟨t123, A52, H⟩ := H; replace H := bS H; obtain ⟨t124, A53, H⟩ := H
     simp only [Option.some.injEq, Prod.mk.injEq] at H
     obtain ⟨rfl, rfl, rfl, rfl⟩ := H
     go_enter Try.func56, Try.ntmps56
     go_wp2_with (first | ((with_reducible refine gate_dst (N := 2) rfl ?_); refine bV 2 (cs := #[.int .i64 a0_0, .int .i64 a0_1, .int .i64 a0_2, .int .i64 a0_3]) (t := 48) rfl rfl (by first | (go_simp; done) | (go_simp; rfl)) ?_; intro gb119 hg w54 hbox hb; have BK119 := hbox; have GW119 := gZ HB hg; have GE119 := gZ HB hg; replace HB := tB HB hb; clear hb hbox hg) | ((with_reducible refine gate_dst (N := 3) rfl ?_); refine bV 3 (cs := #[.int .i64 a1_0, .int .i64 a1_1]) (t := 41) rfl rfl (by first | (go_simp; done) | (go_simp; rfl)) ?_; intro gb120 hg w55 hbox hb; have BK120 := hbox; have GW120 := gZ HB hg; have GE120 := gZ HB hg; have NB119_120 := nG BK119 hg; have NB120_119 := nH BK119 hg; replace BK119 := bB BK119 hb; replace HB := tB HB hb; clear hb hbox hg) | ((with_reducible refine gate_dst (N := 4) rfl ?_); refine bV 4 (cs := #[.int .i64 0, .int .i64 0, .int .i64 0, .int .i64 0]) (t := 48) rfl rfl (by first | (go_simp; done) | (go_simp; rfl)) ?_; intro gb121 hg w56 hbox hb; have BK121 := hbox; have GW121 := gZ HB hg; have GE121 := gZ HB hg; have NB119_121 := nG BK119 hg; have NB121_119 := nH BK119 hg; have NB120_121 := nG BK120 hg; have NB121_120 := nH BK120 hg; replace BK119 := bB BK119 hb; replace BK120 := bB BK120 hb; replace HB := tB HB hb; clear hb hbox hg; have hnb57 := NB119_120.out; have hnc57 := NB120_119.out; have hnb58 := NB119_121.out; have hnc58 := NB121_119.out; have hcz59_0 := vZ0 BK119; have hcz59_1 := vZ1 BK119; have hcz59_2 := vZ2 BK119; have hcz59_3 := vZ3 BK119; have hfz59_0 := kF BK119.out 0; have hfz59_1 := kF BK119.out 1; have hfz59_2 := kF BK119.out 2; have hfz59_3 := kF BK119.out 3) | ((with_reducible refine gate_dst (N := 5) rfl ?_); refine bV 5 (cs := #[.int .i64 0, .int .i64 0]) (t := 41) rfl rfl (by first | (go_simp; done) | (go_simp; rfl)) ?_; intro gb122 hg w60 hbox hb; have BK122 := hbox; have GW122 := gZ HB hg; have GE122 := gZ HB hg; have NB119_122 := nG BK119 hg; have NB122_119 := nH BK119 hg; have NB120_122 := nG BK120 hg; have NB122_120 := nH BK120 hg; have NB121_122 := nG BK121 hg; have NB122_121 := nH BK121 hg; replace BK119 := bB BK119 hb; replace BK120 := bB BK120 hb; replace BK121 := bB BK121 hb; replace HB := tB HB hb; clear hb hbox hg; have hnb61 := NB122_119.out; have hnc61 := NB119_122.out; have hnb62 := NB122_120.out; have hnc62 := NB120_122.out; have hnb63 := NB122_121.out; have hnc63 := NB121_122.out; have hcz64_0 := vZ0 BK122; have hcz64_1 := vZ1 BK122; have hfz64_0 := kF BK122.out 0; have hfz64_1 := kF BK122.out 1; have hcz65_0 := vZ0 BK119; have hcz65_1 := vZ1 BK119; have hcz65_2 := vZ2 BK119; have hcz65_3 := vZ3 BK119; have hfz65_0 := kF BK119.out 0; have hfz65_1 := kF BK119.out 1; have hfz65_2 := kF BK119.out 2; have hfz65_3 := kF BK119.out 3; have hnb66 := NB120_121.out; have hnc66 := NB121_120.out; have hcz67_0 := vZ0 BK120; have hcz67_1 := vZ1 BK120; have hfz67_0 := kF BK120.out 0; have hfz67_1 := kF BK120.out 1) | ((with_reducible refine gC (f := 91) rfl ?_); refine goesL_ (some 41) rfl rfl Try.func91 kR rfl #[.agg #[.int .i64 a0_1, .int .i64 a0_2], .agg #[.int .i64 a1_0, .int .i64 a1_1]] rfl sQ ?_; (with_reducible refine (impl_cross.calls a0_1 a0_2 a1_0 a1_1 t123 _ A52.out).mono ?_); rintro e w68 ⟨rfl, hb⟩; refine ⟨_, rfl, ?_⟩; replace BK119 := aM (blk_below (g := gb119) (o := .cells #[.int .i64 a0_0, .int .i64 a0_1, .int .i64 a0_2, .int .i64 a0_3] 48 (0, 0)) (fQ BK119) hb); replace BK120 := aM (blk_below (g := gb120) (o := .cells #[.int .i64 a1_0, .int .i64 a1_1] 41 (0, 0)) (fQ BK120) hb); replace BK121 := aM (blk_below (g := gb121) (o := .cells #[.int .i64 0, .int .i64 0, .int .i64 0, .int .i64 0] 48 (0, 0)) (fQ BK121) hb); replace BK122 := aM (blk_below (g := gb122) (o := .cells #[.int .i64 a0_1, .int .i64 a0_2] 41 (0, 0)) (fQ BK122) hb); replace HB := tB HB hb; (try clear hb); (try clear hb2); (try clear hk); (try clear hi)) | ((with_reducible refine gC (f := 90) rfl ?_); refine goesL_ (some 42) rfl rfl Try.func90 kR rfl #[.int .i64 t123] rfl sQ ?_; (with_reducible refine (impl_size.calls t123 t124 _ A53.out).mono ?_); rintro e w69 ⟨rfl, hb⟩; refine ⟨_, rfl, ?_⟩; replace BK119 := bB BK119 hb; replace BK120 := bB BK120 hb; replace BK121 := bB BK121 hb; replace BK122 := bB BK122 hb; replace HB := tB HB hb; (try clear hb); (try clear hb2); (try clear hk); (try clear hi); have hcz70_0 := vZ0 BK119; have hcz70_1 := vZ1 BK119; have hcz70_2 := vZ2 BK119; have hcz70_3 := vZ3 BK119; have hfz70_0 := kF BK119.out 0; have hfz70_1 := kF BK119.out 1; have hfz70_2 := kF BK119.out 2; have hfz70_3 := kF BK119.out 3; have hcz71_0 := vZ0 BK121; have hcz71_1 := vZ1 BK121; have hcz71_2 := vZ2 BK121; have hcz71_3 := vZ3 BK121; have hfz71_0 := kF BK121.out 0; have hfz71_1 := kF BK121.out 1; have hfz71_2 := kF BK121.out 2; have hfz71_3 := kF BK121.out 3))
     refine bodyPost_ret (results_cell_row rfl _ _ gb121 48 #[.int .i64 a0_0, .int .i64 a0_1, .int .i64 a0_2, .int .i64 t124] (0, 0) _ rfl (fQ BK121) Try.underlying48 rfl kR) rfl ?_
     exact ⟨wQ, bE⟩
    ·rw [if_neg c51] at H; have c51b0 : (a0_0 == 3) = false := beq_eq_false_iff_ne.mpr c51; have c51b1 : (a0_0 != 3) = true := bne_iff_ne.mpr c51
     by_cases c72 : a0_0 = 4
     ·rw [if_pos c72] at H; have c72b0 : (a0_0 == 4) = true := beq_iff_eq.mpr c72; have c72b1 : (a0_0 != 4) = false := bne_eq_false_iff_eq.mpr c72; clear c72; replace H := bS H; obtain ⟨⟨t125, t126⟩, A73, H⟩ := H; replace H := bS H; obtain ⟨t127, A74, H⟩ := H
      simp only [Option.some.injEq, Prod.mk.injEq] at H
      obtain ⟨rfl, rfl, rfl, rfl⟩ := H
      go_enter Try.func56, Try.ntmps56
      go_wp2_with (first | ((with_reducible refine gate_dst (N := 2) rfl ?_); refine bV 2 (cs := #[.int .i64 a0_0, .int .i64 a0_1, .int .i64 a0_2, .int .i64 a0_3]) (t := 48) rfl rfl (by first | (go_simp; done) | (go_simp; rfl)) ?_; intro gb119 hg w75 hbox hb; have BK119 := hbox; have GW119 := gZ HB hg; have GE119 := gZ HB hg; replace HB := tB HB hb; clear hb hbox hg) | ((with_reducible refine gate_dst (N := 3) rfl ?_); refine bV 3 (cs := #[.int .i64 a1_0, .int .i64 a1_1]) (t := 41) rfl rfl (by first | (go_simp; done) | (go_simp; rfl)) ?_; intro gb120 hg w76 hbox hb; have BK120 := hbox; have GW120 := gZ HB hg; have GE120 := gZ HB hg; have NB119_120 := nG BK119 hg; have NB120_119 := nH BK119 hg; replace BK119 := bB BK119 hb; replace HB := tB HB hb; clear hb hbox hg) | ((with_reducible refine gate_dst (N := 4) rfl ?_); refine bV 4 (cs := #[.int .i64 0, .int .i64 0, .int .i64 0, .int .i64 0]) (t := 48) rfl rfl (by first | (go_simp; done) | (go_simp; rfl)) ?_; intro gb121 hg w77 hbox hb; have BK121 := hbox; have GW121 := gZ HB hg; have GE121 := gZ HB hg; have NB119_121 := nG BK119 hg; have NB121_119 := nH BK119 hg; have NB120_121 := nG BK120 hg; have NB121_120 := nH BK120 hg; replace BK119 := bB BK119 hb; replace BK120 := bB BK120 hb; replace HB := tB HB hb; clear hb hbox hg; have hnb78 := NB119_120.out; have hnc78 := NB120_119.out; have hnb79 := NB119_121.out; have hnc79 := NB121_119.out; have hcz80_0 := vZ0 BK119; have hcz80_1 := vZ1 BK119; have hcz80_2 := vZ2 BK119; have hcz80_3 := vZ3 BK119; have hfz80_0 := kF BK119.out 0; have hfz80_1 := kF BK119.out 1; have hfz80_2 := kF BK119.out 2; have hfz80_3 := kF BK119.out 3) | ((with_reducible refine gate_dst (N := 5) rfl ?_); refine bV 5 (cs := #[.int .i64 0, .int .i64 0]) (t := 41) rfl rfl (by first | (go_simp; done) | (go_simp; rfl)) ?_; intro gb122 hg w81 hbox hb; have BK122 := hbox; have GW122 := gZ HB hg; have GE122 := gZ HB hg; have NB119_122 := nG BK119 hg; have NB122_119 := nH BK119 hg; have NB120_122 := nG BK120 hg; have NB122_120 := nH BK120 hg; have NB121_122 := nG BK121 hg; have NB122_121 := nH BK121 hg; replace BK119 := bB BK119 hb; replace BK120 := bB BK120 hb; replace BK121 := bB BK121 hb; replace HB := tB HB hb; clear hb hbox hg; have hnb82 := NB122_119.out; have hnc82 := NB119_122.out; have hnb83 := NB122_120.out; have hnc83 := NB120_122.out; have hnb84 := NB122_121.out; have hnc84 := NB121_122.out; have hcz85_0 := vZ0 BK122; have hcz85_1 := vZ1 BK122; have hfz85_0 := kF BK122.out 0; have hfz85_1 := kF BK122.out 1; have hcz86_0 := vZ0 BK119; have hcz86_1 := vZ1 BK119; have hcz86_2 := vZ2 BK119; have hcz86_3 := vZ3 BK119; have hfz86_0 := kF BK119.out 0; have hfz86_1 := kF BK119.out 1; have hfz86_2 := kF BK119.out 2; have hfz86_3 := kF BK119.out 3; have hnb87 := NB120_121.out; have hnc87 := NB121_120.out; have hcz88_0 := vZ0 BK120; have hcz88_1 := vZ1 BK120; have hfz88_0 := kF BK120.out 0; have hfz88_1 := kF BK120.out 1) | ((with_reducible refine gC (f := 92) rfl ?_); refine goesL_ (some 48) rfl rfl Try.func92 kR rfl #[.agg #[.int .i64 a1_0, .int .i64 a1_1], .agg #[.int .i64 a0_1, .int .i64 a0_2]] rfl sQ ?_; (with_reducible refine (impl_Peg_less.calls a1_0 a1_1 a0_1 a0_2 t125 t126 _ A73.out).mono ?_); rintro e w89 ⟨rfl, hb⟩; refine ⟨_, rfl, ?_⟩; replace BK119 := aM (blk_below (g := gb119) (o := .cells #[.int .i64 a0_0, .int .i64 a0_1, .int .i64 a0_2, .int .i64 a0_3] 48 (0, 0)) (fQ BK119) hb); replace BK120 := aM (blk_below (g := gb120) (o := .cells #[.int .i64 a1_0, .int .i64 a1_1] 41 (0, 0)) (fQ BK120) hb); replace BK121 := aM (blk_below (g := gb121) (o := .cells #[.int .i64 0, .int .i64 0, .int .i64 0, .int .i64 0] 48 (0, 0)) (fQ BK121) hb); replace BK122 := aM (blk_below (g := gb122) (o := .cells #[.int .i64 a0_1, .int .i64 a0_2] 41 (0, 0)) (fQ BK122) hb); replace HB := tB HB hb; (try clear hb); (try clear hb2); (try clear hk); (try clear hi)) | ((with_reducible refine gC (f := 93) rfl ?_); refine goesL_ (some 49) rfl rfl Try.func93 kR rfl #[.agg #[.int .i64 t125, .int .i64 t126]] rfl sQ ?_; (with_reducible refine (impl_Peg_square.calls t125 t126 t127 _ A74.out).mono ?_); rintro e w90 ⟨rfl, hb⟩; refine ⟨_, rfl, ?_⟩; replace BK119 := bB BK119 hb; replace BK120 := bB BK120 hb; replace BK121 := bB BK121 hb; replace BK122 := bB BK122 hb; replace HB := tB HB hb; (try clear hb); (try clear hb2); (try clear hk); (try clear hi); have hcz91_0 := vZ0 BK119; have hcz91_1 := vZ1 BK119; have hcz91_2 := vZ2 BK119; have hcz91_3 := vZ3 BK119; have hfz91_0 := kF BK119.out 0; have hfz91_1 := kF BK119.out 1; have hfz91_2 := kF BK119.out 2; have hfz91_3 := kF BK119.out 3; have hcz92_0 := vZ0 BK121; have hcz92_1 := vZ1 BK121; have hcz92_2 := vZ2 BK121; have hcz92_3 := vZ3 BK121; have hfz92_0 := kF BK121.out 0; have hfz92_1 := kF BK121.out 1; have hfz92_2 := kF BK121.out 2; have hfz92_3 := kF BK121.out 3))
      refine bodyPost_ret (results_cell_row rfl _ _ gb121 48 #[.int .i64 a0_0, .int .i64 a0_1, .int .i64 a0_2, .int .i64 t127] (0, 0) _ rfl (fQ BK121) Try.underlying48 rfl kR) rfl ?_
      exact ⟨wQ, bE⟩
     ·rw [if_neg c72] at H; have c72b0 : (a0_0 == 4) = false := beq_eq_false_iff_ne.mpr c72; have c72b1 : (a0_0 != 4) = true := bne_iff_ne.mpr c72; replace H := bS H; obtain ⟨t128, A93, H⟩ := H
      by_cases c94 : t128 < 2
      ·rw [if_pos c94] at H; have c94b0 := dE c94; clear c94
       simp only [Option.some.injEq, Prod.mk.injEq] at H
       obtain ⟨rfl, rfl, rfl, rfl⟩ := H
       go_enter Try.func56, Try.ntmps56
       go_wp2_with (first | ((with_reducible refine gate_dst (N := 2) rfl ?_); refine bV 2 (cs := #[.int .i64 a0_0, .int .i64 a0_1, .int .i64 a0_2, .int .i64 a0_3]) (t := 48) rfl rfl (by first | (go_simp; done) | (go_simp; rfl)) ?_; intro gb119 hg w95 hbox hb; have BK119 := hbox; have GW119 := gZ HB hg; have GE119 := gZ HB hg; replace HB := tB HB hb; clear hb hbox hg) | ((with_reducible refine gate_dst (N := 3) rfl ?_); refine bV 3 (cs := #[.int .i64 a1_0, .int .i64 a1_1]) (t := 41) rfl rfl (by first | (go_simp; done) | (go_simp; rfl)) ?_; intro gb120 hg w96 hbox hb; have BK120 := hbox; have GW120 := gZ HB hg; have GE120 := gZ HB hg; have NB119_120 := nG BK119 hg; have NB120_119 := nH BK119 hg; replace BK119 := bB BK119 hb; replace HB := tB HB hb; clear hb hbox hg) | ((with_reducible refine gate_dst (N := 4) rfl ?_); refine bV 4 (cs := #[.int .i64 0, .int .i64 0, .int .i64 0, .int .i64 0]) (t := 48) rfl rfl (by first | (go_simp; done) | (go_simp; rfl)) ?_; intro gb121 hg w97 hbox hb; have BK121 := hbox; have GW121 := gZ HB hg; have GE121 := gZ HB hg; have NB119_121 := nG BK119 hg; have NB121_119 := nH BK119 hg; have NB120_121 := nG BK120 hg; have NB121_120 := nH BK120 hg; replace BK119 := bB BK119 hb; replace BK120 := bB BK120 hb; replace HB := tB HB hb; clear hb hbox hg; have hnb98 := NB119_120.out; have hnc98 := NB120_119.out; have hnb99 := NB119_121.out; have hnc99 := NB121_119.out; have hcz100_0 := vZ0 BK119; have hcz100_1 := vZ1 BK119; have hcz100_2 := vZ2 BK119; have hcz100_3 := vZ3 BK119; have hfz100_0 := kF BK119.out 0; have hfz100_1 := kF BK119.out 1; have hfz100_2 := kF BK119.out 2; have hfz100_3 := kF BK119.out 3) | ((with_reducible refine gate_dst (N := 5) rfl ?_); refine bV 5 (cs := #[.int .i64 0, .int .i64 0]) (t := 41) rfl rfl (by first | (go_simp; done) | (go_simp; rfl)) ?_; intro gb122 hg w101 hbox hb; have BK122 := hbox; have GW122 := gZ HB hg; have GE122 := gZ HB hg; have NB119_122 := nG BK119 hg; have NB122_119 := nH BK119 hg; have NB120_122 := nG BK120 hg; have NB122_120 := nH BK120 hg; have NB121_122 := nG BK121 hg; have NB122_121 := nH BK121 hg; replace BK119 := bB BK119 hb; replace BK120 := bB BK120 hb; replace BK121 := bB BK121 hb; replace HB := tB HB hb; clear hb hbox hg; have hnb102 := NB122_119.out; have hnc102 := NB119_122.out; have hnb103 := NB122_120.out; have hnc103 := NB120_122.out; have hnb104 := NB122_121.out; have hnc104 := NB121_122.out; have hcz105_0 := vZ0 BK122; have hcz105_1 := vZ1 BK122; have hfz105_0 := kF BK122.out 0; have hfz105_1 := kF BK122.out 1; have hcz106_0 := vZ0 BK119; have hcz106_1 := vZ1 BK119; have hcz106_2 := vZ2 BK119; have hcz106_3 := vZ3 BK119; have hfz106_0 := kF BK119.out 0; have hfz106_1 := kF BK119.out 1; have hfz106_2 := kF BK119.out 2; have hfz106_3 := kF BK119.out 3; have hnb107 := NB120_121.out; have hnc107 := NB121_120.out; have hcz108_0 := vZ0 BK120; have hcz108_1 := vZ1 BK120; have hfz108_0 := kF BK120.out 0; have hfz108_1 := kF BK120.out 1) | ((with_reducible refine gC (f := 78) rfl ?_); refine goesL_ (some 16) rfl rfl Try.func78 kR rfl #[.agg #[.int .i64 a1_0, .int .i64 a1_1], .agg #[.int .i64 a0_1, .int .i64 a0_2]] rfl sQ ?_; (with_reducible refine (impl_steps.calls k a1_0 a1_1 a0_1 a0_2 t128 _ A93.out).mono ?_); rintro e w109 ⟨rfl, hb⟩; refine ⟨_, rfl, ?_⟩; replace BK119 := aM (blk_below (g := gb119) (o := .cells #[.int .i64 a0_0, .int .i64 a0_1, .int .i64 a0_2, .int .i64 0] 48 (0, 0)) (fQ BK119) hb); replace BK120 := aM (blk_below (g := gb120) (o := .cells #[.int .i64 a1_0, .int .i64 a1_1] 41 (0, 0)) (fQ BK120) hb); replace BK121 := aM (blk_below (g := gb121) (o := .cells #[.int .i64 0, .int .i64 0, .int .i64 0, .int .i64 0] 48 (0, 0)) (fQ BK121) hb); replace BK122 := aM (blk_below (g := gb122) (o := .cells #[.int .i64 a0_1, .int .i64 a0_2] 41 (0, 0)) (fQ BK122) hb); replace HB := tB HB hb; (try clear hb); (try clear hb2); (try clear hk); (try clear hi); have hcz110_0 := vZ0 BK119; have hcz110_1 := vZ1 BK119; have hcz110_2 := vZ2 BK119; have hcz110_3 := vZ3 BK119; have hfz110_0 := kF BK119.out 0; have hfz110_1 := kF BK119.out 1; have hfz110_2 := kF BK119.out 2; have hfz110_3 := kF BK119.out 3; have hcz111_0 := vZ0 BK121; have hcz111_1 := vZ1 BK121; have hcz111_2 := vZ2 BK121; have hcz111_3 := vZ3 BK121; have hfz111_0 := kF BK121.out 0; have hfz111_1 := kF BK121.out 1; have hfz111_2 := kF BK121.out 2; have hfz111_3 := kF BK121.out 3))
       refine bodyPost_ret (results_cell_row rfl _ _ gb121 48 #[.int .i64 a0_0, .int .i64 a0_1, .int .i64 a0_2, .int .i64 1] (0, 0) _ rfl (fQ BK121) Try.underlying48 rfl kR) rfl ?_
       exact ⟨wQ, bE⟩
      ·rw [if_neg c94] at H; have c94b0 := decide_eq_false c94; clear c94
       simp only [Option.some.injEq, Prod.mk.injEq] at H
       obtain ⟨rfl, rfl, rfl, rfl⟩ := H
       go_enter Try.func56, Try.ntmps56
       go_wp2_with (first | ((with_reducible refine gate_dst (N := 2) rfl ?_); refine bV 2 (cs := #[.int .i64 a0_0, .int .i64 a0_1, .int .i64 a0_2, .int .i64 a0_3]) (t := 48) rfl rfl (by first | (go_simp; done) | (go_simp; rfl)) ?_; intro gb119 hg w112 hbox hb; have BK119 := hbox; have GW119 := gZ HB hg; have GE119 := gZ HB hg; replace HB := tB HB hb; clear hb hbox hg) | ((with_reducible refine gate_dst (N := 3) rfl ?_); refine bV 3 (cs := #[.int .i64 a1_0, .int .i64 a1_1]) (t := 41) rfl rfl (by first | (go_simp; done) | (go_simp; rfl)) ?_; intro gb120 hg w113 hbox hb; have BK120 := hbox; have GW120 := gZ HB hg; have GE120 := gZ HB hg; have NB119_120 := nG BK119 hg; have NB120_119 := nH BK119 hg; replace BK119 := bB BK119 hb; replace HB := tB HB hb; clear hb hbox hg) | ((with_reducible refine gate_dst (N := 4) rfl ?_); refine bV 4 (cs := #[.int .i64 0, .int .i64 0, .int .i64 0, .int .i64 0]) (t := 48) rfl rfl (by first | (go_simp; done) | (go_simp; rfl)) ?_; intro gb121 hg w114 hbox hb; have BK121 := hbox; have GW121 := gZ HB hg; have GE121 := gZ HB hg; have NB119_121 := nG BK119 hg; have NB121_119 := nH BK119 hg; have NB120_121 := nG BK120 hg; have NB121_120 := nH BK120 hg; replace BK119 := bB BK119 hb; replace BK120 := bB BK120 hb; replace HB := tB HB hb; clear hb hbox hg; have hnb115 := NB119_120.out; have hnc115 := NB120_119.out; have hnb116 := NB119_121.out; have hnc116 := NB121_119.out; have hcz117_0 := vZ0 BK119; have hcz117_1 := vZ1 BK119; have hcz117_2 := vZ2 BK119; have hcz117_3 := vZ3 BK119; have hfz117_0 := kF BK119.out 0; have hfz117_1 := kF BK119.out 1; have hfz117_2 := kF BK119.out 2; have hfz117_3 := kF BK119.out 3) | ((with_reducible refine gate_dst (N := 5) rfl ?_); refine bV 5 (cs := #[.int .i64 0, .int .i64 0]) (t := 41) rfl rfl (by first | (go_simp; done) | (go_simp; rfl)) ?_; intro gb122 hg w118 hbox hb; have BK122 := hbox; have GW122 := gZ HB hg; have GE122 := gZ HB hg; have NB119_122 := nG BK119 hg; have NB122_119 := nH BK119 hg; have NB120_122 := nG BK120 hg; have NB122_120 := nH BK120 hg; have NB121_122 := nG BK121 hg; have NB122_121 := nH BK121 hg; replace BK119 := bB BK119 hb; replace BK120 := bB BK120 hb; replace BK121 := bB BK121 hb; replace HB := tB HB hb; clear hb hbox hg; have hnb119 := NB122_119.out; have hnc119 := NB119_122.out; have hnb120 := NB122_120.out; have hnc120 := NB120_122.out; have hnb121 := NB122_121.out; have hnc121 := NB121_122.out; have hcz122_0 := vZ0 BK122; have hcz122_1 := vZ1 BK122; have hfz122_0 := kF BK122.out 0; have hfz122_1 := kF BK122.out 1; have hcz123_0 := vZ0 BK119; have hcz123_1 := vZ1 BK119; have hcz123_2 := vZ2 BK119; have hcz123_3 := vZ3 BK119; have hfz123_0 := kF BK119.out 0; have hfz123_1 := kF BK119.out 1; have hfz123_2 := kF BK119.out 2; have hfz123_3 := kF BK119.out 3; have hnb124 := NB120_121.out; have hnc124 := NB121_120.out; have hcz125_0 := vZ0 BK120; have hcz125_1 := vZ1 BK120; have hfz125_0 := kF BK120.out 0; have hfz125_1 := kF BK120.out 1) | ((with_reducible refine gC (f := 78) rfl ?_); refine goesL_ (some 16) rfl rfl Try.func78 kR rfl #[.agg #[.int .i64 a1_0, .int .i64 a1_1], .agg #[.int .i64 a0_1, .int .i64 a0_2]] rfl sQ ?_; (with_reducible refine (impl_steps.calls k a1_0 a1_1 a0_1 a0_2 t128 _ A93.out).mono ?_); rintro e w126 ⟨rfl, hb⟩; refine ⟨_, rfl, ?_⟩; replace BK119 := aM (blk_below (g := gb119) (o := .cells #[.int .i64 a0_0, .int .i64 a0_1, .int .i64 a0_2, .int .i64 0] 48 (0, 0)) (fQ BK119) hb); replace BK120 := aM (blk_below (g := gb120) (o := .cells #[.int .i64 a1_0, .int .i64 a1_1] 41 (0, 0)) (fQ BK120) hb); replace BK121 := aM (blk_below (g := gb121) (o := .cells #[.int .i64 0, .int .i64 0, .int .i64 0, .int .i64 0] 48 (0, 0)) (fQ BK121) hb); replace BK122 := aM (blk_below (g := gb122) (o := .cells #[.int .i64 a0_1, .int .i64 a0_2] 41 (0, 0)) (fQ BK122) hb); replace HB := tB HB hb; (try clear hb); (try clear hb2); (try clear hk); (try clear hi); have hcz127_0 := vZ0 BK119; have hcz127_1 := vZ1 BK119; have hcz127_2 := vZ2 BK119; have hcz127_3 := vZ3 BK119; have hfz127_0 := kF BK119.out 0; have hfz127_1 := kF BK119.out 1; have hfz127_2 := kF BK119.out 2; have hfz127_3 := kF BK119.out 3; have hcz128_0 := vZ0 BK121; have hcz128_1 := vZ1 BK121; have hcz128_2 := vZ2 BK121; have hcz128_3 := vZ3 BK121; have hfz128_0 := kF BK121.out 0; have hfz128_1 := kF BK121.out 1; have hfz128_2 := kF BK121.out 2; have hfz128_3 := kF BK121.out 3))
       refine bodyPost_ret (results_cell_row rfl _ _ gb121 48 #[.int .i64 a0_0, .int .i64 a0_1, .int .i64 a0_2, .int .i64 0] (0, 0) _ rfl (fQ BK121) Try.underlying48 rfl kR) rfl ?_
       exact ⟨wQ, bE⟩

def spec_l1In.f (a0 : Int) (a1 : Int) (a2 : Int) : Option (Bool) := if a0 ≥ a1 then (some (decide (a0 ≤ a2))) else (some false)
set_option maxHeartbeats 8000000 in
set_option maxRecDepth 100000 in
theorem spec_l1In.calls (a0 : Int) (a1 : Int) (a2 : Int) (r : Bool) (w : World) (h : spec_l1In.f a0 a1 a2 = some r) :
  Calls Try.prog 59 #[.int .i64 a0, .int .i64 a1, .int .i64 a2] w fun e w' => e = .returned (.bool r) ∧ Drawn0 w w' := by
 unfold spec_l1In.f at h; have H := h; clear h
 by_cases c4 : a0 ≥ a1
 ·rw [if_pos c4] at H; have c4b0 := dE c4; clear c4; obtain rfl := Option.some.inj H
  go_enter Try.func59, Try.ntmps59
  go_wp2
  go_ret
  exact ⟨eQ, dQ⟩
 ·rw [if_neg c4] at H; have c4b0 := decide_eq_false c4; clear c4; obtain rfl := Option.some.inj H
  go_enter Try.func59, Try.ntmps59
  go_wp2
  go_ret
  exact ⟨eQ, dQ⟩

def spec_pzSide.f (a0 : Int) : Option (Bool) := (spec_l1In.f a0 1 12).bind fun t129 => (some t129)
set_option maxHeartbeats 8000000 in
set_option maxRecDepth 100000 in
theorem spec_pzSide.calls (a0 : Int) (r : Bool) (w : World) (h : spec_pzSide.f a0 = some r) :
  Calls Try.prog 57 #[.int .i64 a0] w fun e w' => e = .returned (.bool r) ∧ Drawn0 w w' := by
 unfold spec_pzSide.f at h; have H := h; clear h
 replace H := bS H; obtain ⟨t129, A2, H⟩ := H; obtain rfl := Option.some.inj H
 go_enter Try.func57, Try.ntmps57
 go_wp2_with (first | ((with_reducible refine gC (f := 59) rfl ?_); refine goesL_ (some 4) rfl rfl Try.func59 kR rfl #[.int .i64 a0, .int .i64 1, .int .i64 12] rfl sQ ?_; (with_reducible refine (spec_l1In.calls a0 1 12 t129 _ A2.out).mono ?_); rintro e w' ⟨rfl, ⟨nd, rfl⟩⟩; refine ⟨_, rfl, ?_⟩))
 go_ret
 exact ⟨eQ, dQ⟩

end Go.Proofs.Ytoeclfihlhmnpaa.X
