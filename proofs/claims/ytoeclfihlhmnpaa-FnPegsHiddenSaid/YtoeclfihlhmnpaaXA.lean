import Derived.Test.YtoeclfihlhmnpaaXW
import Derived.Test.YtoeclfihlhmnpaaWAll
namespace Go.Proofs.Ytoeclfihlhmnpaa.XW
open Go.RowKit Go.Proofs.Ytoeclfihlhmnpaa.XW Go.Proofs.YtoeclfihlhmnpaaW.PrintWords Go.Proofs.YtoeclfihlhmnpaaW.PrintLast Go.Proofs.YtoeclfihlhmnpaaW.PrintMore
theorem aM : type_of% @Aside0.mk := @Aside0.mk
theorem wB : type_of% @World.block_lt_of_cell? := @World.block_lt_of_cell?
theorem sI : type_of% @List.setIfInBounds_toArray := @List.setIfInBounds_toArray
theorem sZ : type_of% @List.set_cons_zero := @List.set_cons_zero
theorem sS : type_of% @List.set_cons_succ := @List.set_cons_succ
theorem pN : type_of% @pw_below_drewN := @pw_below_drewN
theorem pD : type_of% @below_drew1 := @below_drew1
theorem pA : type_of% @below_alloc := @below_alloc
theorem pS : type_of% @below_set := @below_set
theorem pT : type_of% @below_step := @below_step
theorem pZ : type_of% @below_size := @below_size
theorem kN : type_of% @blk_drewN := @blk_drewN
theorem kD : type_of% @blk_drew := @blk_drew
theorem kA : type_of% @blk_alloc := @blk_alloc
theorem kC : type_of% @blk_cell := @blk_cell
theorem kF : type_of% @blk_frozen := @blk_frozen
theorem oB : type_of% @Option.bind_eq_some_iff := @Option.bind_eq_some_iff
theorem lT : type_of% @List.length_take := @List.length_take
theorem lD : type_of% @List.length_drop := @List.length_drop
theorem mA : type_of% @List.map_toArray := @List.map_toArray
theorem mC : type_of% @List.map_cons := @List.map_cons
theorem mN : type_of% @List.map_nil := @List.map_nil
theorem rA : type_of% @Kd.R_alloc := @Kd.R_alloc
theorem rN : type_of% @Kd.R_drewN := @Kd.R_drewN
theorem rD : type_of% @Kd.R_drew := @Kd.R_drew
theorem rR : type_of% @Kd.R_reads' := @Kd.R_reads'
theorem cA : type_of% @Kd.C_alloc := @Kd.C_alloc
theorem cN : type_of% @Kd.C_drewN := @Kd.C_drewN
theorem cD : type_of% @Kd.C_drew := @Kd.C_drew
theorem nN : type_of% @Nat.ne_of_lt := @Nat.ne_of_lt
theorem gC : type_of% @gate_callee := @gate_callee
theorem dT : type_of% @of_decide_eq_true := @of_decide_eq_true
theorem dE : type_of% @decide_eq_true := @decide_eq_true
set_option linter.unusedVariables false
theorem bQ {n : Nat} {w w' : World} (h : Below n w w' := by repeat (first | (with_reducible first | exact HB.out | apply pA | apply pN | apply pD) | exact HB.out)) : Below n w w' := h
theorem eQ {α : Sort _} {a b : α} (h : a = b := by first | rfl | (simp; done) | (simp [*]; done)) : a = b := h
theorem sQ {α : Sort _} {a b : α} (h : a = b := by (try simp only [mA, mC, mN]); first | done | rfl | (simp only [lD, lT]; rfl)) : a = b := h
theorem aQ {p : Prop} (h : p := by first | (with_reducible assumption) | assumption) : p := h
theorem kR {α : Sort _} {a b : α} (h : a = b := by kernel_rfl) : a = b := h
theorem gQ {p q : Prop} (k : Aside0 p) (h : q := by (with_reducible repeat (first | refine kN ?_ _ | refine kD ?_ | refine kA ?_ _)); exact Aside0.out (by with_reducible assumption)) : q := h
theorem rQ {p q : Prop} (k : Aside0 p) (h : q := by (with_reducible repeat (first | apply rA | apply rN | apply rD)); exact Aside0.out (by with_reducible assumption)) : q := h
-- lemmas of compact.py
section
variable {α : Type}
theorem iN {p : Prop} [Decidable p] {a : Option α} {r : α} (h : (if p then a else none) = some r) : p ∧ a = some r := by
 by_cases c : p
 · rw [if_pos c] at h; exact ⟨c, h⟩
 · rw [if_neg c] at h; exact absurd h (by simp)
theorem iD {p : Prop} [Decidable p] {a : Option α} {r : α} (h : (if p then a else none) = some r) : decide p = true ∧ a = some r := ⟨decide_eq_true (iN h).1, (iN h).2⟩
theorem iM {p : Prop} [Decidable p] {a : Option α} {r : α} (h : (if p then none else a) = some r) : ¬p ∧ a = some r := by
 by_cases c : p
 · rw [if_pos c] at h; exact absurd h (by simp)
 · rw [if_neg c] at h; exact ⟨c, h⟩
theorem iT {a b c : α} (h : (if true = true then a else b) = c) : a = c := by simpa using h
theorem iF {a b c : α} (h : (if false = true then a else b) = c) : b = c := by simpa using h
theorem bS {β : Type} {x : Option β} {f : β → Option α} {r : α} (h : x.bind f = some r) : ∃ t, Aside0 (x = some t) ∧ f t = some r := by
 obtain ⟨t, h1, h2⟩ := Option.bind_eq_some_iff.1 h
 exact ⟨t, ⟨h1⟩, h2⟩
theorem lS {β : Type} {x : β} {f : β → Option α} {r : α} (h : (some x).bind f = some r) : ∃ t, Aside0 (t = x) ∧ f t = some r := ⟨x, ⟨rfl⟩, h⟩
end
theorem bE {n : Nat} {w w' : World} (h : Below n w w' := by repeat (first | (with_reducible first | exact HB.out | apply pA | apply pN | apply pD | refine pS ?_ (Aside0.out (by with_reducible assumption))) | exact HB.out)) : Below n w w' := h
theorem wQ {α : Sort _} {a b : α} (h : a = b := by first | rfl | (simp [errW_none, errW_some] <;> rfl) | (simp [*, errW_none, errW_some] <;> rfl)) : a = b := h
theorem fQ {p q : Prop} (k : Aside0 p) (h : q := by (with_reducible repeat (first | refine kN ?_ _ | refine kD ?_ | refine kA ?_ _ | apply blk_put | (apply blk_far; case hp => exact Aside0.out (by assumption)))); exact Aside0.out (by with_reducible assumption); all_goals rfl) : q := h
theorem bB {w0 W w1 : World} {g : Nat} {o : Obj} (k : Aside0 (w0.heap[g]? = some o)) (hb : Below W.heap.size W w1) (h : W.heap[g]? = some o := by (with_reducible repeat (first | refine kN ?_ _ | refine kD ?_ | refine kA ?_ _)); exact Aside0.out (by with_reducible assumption)) : Aside0 (w1.heap[g]? = some o) := ⟨blk_below h hb⟩
theorem gZ {w w0 W : World} {g : Nat} (k : Aside0 (Below w.heap.size w w0)) (hg : g = W.heap.size) (h : Below w.heap.size w W := by repeat (first | (with_reducible first | exact HB.out | apply pA | apply pN | apply pD | refine pS ?_ (Aside0.out (by with_reducible assumption))) | exact HB.out)) : Aside0 (w.heap.size ≤ g) := ⟨by rw [hg]; exact pZ h⟩
theorem tB {w w0 W w1 : World} (k : Aside0 (Below w.heap.size w w0)) (hb : Below W.heap.size W w1) (h : Below w.heap.size w W := by repeat (first | (with_reducible first | exact HB.out | apply pA | apply pN | apply pD | refine pS ?_ (Aside0.out (by with_reducible assumption))) | exact HB.out)) : Aside0 (Below w.heap.size w w1) := ⟨pT h hb⟩
theorem nG {w0 W : World} {g g' : Nat} {o : Obj} (k : Aside0 (w0.heap[g]? = some o)) (hg : g' = W.heap.size) (h : W.heap[g]? = some o := by (with_reducible repeat (first | refine kN ?_ _ | refine kD ?_ | refine kA ?_ _)); exact Aside0.out (by with_reducible assumption)) : Aside0 (g ≠ g') := ⟨by rw [hg]; exact nN (blk_lt h)⟩
theorem nH {w0 W : World} {g g' : Nat} {o : Obj} (k : Aside0 (w0.heap[g]? = some o)) (hg : g' = W.heap.size) (h : W.heap[g]? = some o := by (with_reducible repeat (first | refine kN ?_ _ | refine kD ?_ | refine kA ?_ _)); exact Aside0.out (by with_reducible assumption)) : Aside0 (g' ≠ g) := ⟨by rw [hg]; exact Nat.ne_of_gt (blk_lt h)⟩
section
variable {w : World} {g : Nat} {t : TypeId} {v0 v1 v2 v3 v4 v5 : Value} {l : List Value}
theorem vZ0 (k : Aside0 (w.heap[g]? = some (.cells (v0 :: l).toArray t (0, 0)))) : w.cell? ⟨g, 0, none⟩ = some v0 := (kC k.out 0).trans rfl
theorem vZ1 (k : Aside0 (w.heap[g]? = some (.cells (v0 :: v1 :: l).toArray t (0, 0)))) : w.cell? ⟨g, 1, none⟩ = some v1 := (kC k.out 1).trans rfl
theorem vZ2 (k : Aside0 (w.heap[g]? = some (.cells (v0 :: v1 :: v2 :: l).toArray t (0, 0)))) : w.cell? ⟨g, 2, none⟩ = some v2 := (kC k.out 2).trans rfl
theorem vZ3 (k : Aside0 (w.heap[g]? = some (.cells (v0 :: v1 :: v2 :: v3 :: l).toArray t (0, 0)))) : w.cell? ⟨g, 3, none⟩ = some v3 := (kC k.out 3).trans rfl
theorem vZ4 (k : Aside0 (w.heap[g]? = some (.cells (v0 :: v1 :: v2 :: v3 :: v4 :: l).toArray t (0, 0)))) : w.cell? ⟨g, 4, none⟩ = some v4 := (kC k.out 4).trans rfl
theorem vZ5 (k : Aside0 (w.heap[g]? = some (.cells (v0 :: v1 :: v2 :: v3 :: v4 :: v5 :: l).toArray t (0, 0)))) : w.cell? ⟨g, 5, none⟩ = some v5 := (kC k.out 5).trans rfl
end
def bA (n k : Nat) : Array Bool := ((List.range n).map fun i => k.testBit i).toArray
section
variable {P : Program} {ops : Array Oper} {Q : Exit → Act → World → Prop} {rest : List Oper} {o : Oper} {a : Act} {W : World}
theorem bV (N : Tmp) {cs : Array Value} {t : TypeId} (hgd : o.guard = none) (_hd : o.dst = some N) (hrun : (execOp a.eval o).run P W = .ok (.value (.pointer (some ⟨W.heap.size, 0, none⟩))) (W.alloc (.cells cs t (0, 0))))
  (h : ∀ g, g = W.heap.size → ∀ w1, Aside0 (w1.heap[g]? = some (.cells cs t (0, 0))) → Below W.heap.size W w1 → wpList P ops Q rest (a.put o.dst (.pointer (some ⟨g, 0, none⟩))) w1) : wpList P ops Q (o :: rest) a W :=
  box_event hgd _hd hrun (fun g hg w1 hx hb => h g hg w1 ⟨hx⟩ hb)
end
section
variable {P : Program} {md : Region.Mode} {ops : Array Oper} {ds : List Nat} {Q : Exit → Act → World → Prop} {S : World → Prop} {TT : Bool × List (List Nat × List Nat)}
theorem pU (i n : Nat) {oi : Oper} {v : Value} {fuel : Nat} {l : Array Bool} {a : Act} {w : World} (l' : Array Bool) (hT : Aside0 (rtab md ops = TT)) {a' : Act}
  (h : wpAnyLast P md ops Q S ds fuel l' a' w) (hi : ops[i]? = some oi := by exact rfl) (hN : oi.dst = some n := by exact rfl) (hc : anyT TT l.toList l'.toList i = true := by kernel_rfl)
  (hQ : ∀ c a w, Q (.panic c) (a.put oi.dst v) w → Q (.panic c) a w := by exact fun _ _ _ h => h) (hy : Yields P ops oi v a := by exact Or.inl ⟨by rfl, by intro w'; go_simp; with_reducible rfl⟩) 
  (ha : a.put (some n) v = a' := by simp only [Act.put, sI, sZ, sS, i64_w, i32_w]; rfl) : wpAnyLast P md ops Q S ds (fuel + 1) l a w :=
  pure_ l' hi hN (any_of hT.out hc) hQ hy ha h
theorem tU (i n : Nat) {oi : Oper} {v : Value} {fuel : Nat} {l : Array Bool} {a : Act} {w : World} (l' : Array Bool) {BB : List Nat} (hT : Aside0 (rtab md ops = TT)) (hW : Aside0 (waitsOk TT.2 BB = true)) (hS : S w) {a' : Act}
  (h : wpAnyLast P md ops Q S ds fuel l' a' w) (hi : ops[i]? = some oi := by exact rfl) (hN : oi.dst = some n := by exact rfl) (hc : takeW TT BB ds l.toList l'.toList i = true := by kernel_rfl)
  (hQ : ∀ c a w, Q (.panic c) (a.put oi.dst v) w → Q (.panic c) a w := by exact fun _ _ _ h => h) (hy : YieldsIf P ops S oi v a) 
  (ha : a.put (some n) v = a' := by simp only [Act.put, sI, sZ, sS, i64_w, i32_w]; rfl) : wpAnyLast P md ops Q S ds (fuel + 1) l a w :=
  take_ l' hi hN (take_ofW hT.out hW.out hc) hQ hy hS ha h
theorem oU (i n : Nat) {oi : Oper} {fuel : Nat} {l : Array Bool} {a : Act} {w : World} (l' : Array Bool) (hT : Aside0 (rtab md ops = TT))
  (h : ∀ K : Act → World → Prop, Shut (∀ a' w', S w' → (S w' → wpAnyLast P md ops Q S ds fuel l' a' w') → K a' w') → if Region.wanted oi (yielded ops a.tmps) = true then Oper.wp P oi a w K Q else K (a.put (some n) undef) w)
  (hi : ops[i]? = some oi := by exact rfl) (hN : oi.dst = some n := by exact rfl) (hc : (readyT TT.2 l.toList == [i] && l.toList.set i true == l'.toList) = true := by kernel_rfl) (hd : i ∉ ds := by decide) :
  wpAnyLast P md ops Q S ds (fuel + 1) l a w := one_ l' hi hN (one_of hT.out hc) hd h
theorem nU {fuel : Nat} {l : Array Bool} {a a' : Act} {w : World} (h : wpAnyLast P md ops Q S ds fuel l a' w) (ha : a = a' := by (show Act.put _ (some _) _ = _); simp only [Act.put, sI, sZ, sS, i64_w, i32_w]; rfl) : wpAnyLast P md ops Q S ds fuel l a w := norm_ ha h
end
theorem oX {P Q : Prop} (h : P) (k : P → Q := by intro h; first | exact h.2 | exact h.2.2 | exact h.2.2.2 | exact h.2.1 | exact h.2.2.1 | exact h.2.2.2.2 | exact h.2.2.2.1) : Q := k h
theorem hC {w w1 : World} {a : Addr} {v : Value} (k : Aside0 (Below w.heap.size w w1)) (h : w.cell? a = some v) : w1.cell? a = some v := (k.out.cell (wB w _ h)).trans h
theorem dQ {w w' : World} (h : Drawn0 w w' := by repeat (first | exact Drawn0.refl _ | apply Drawn0.step)) : Drawn0 w w' := h
end Go.Proofs.Ytoeclfihlhmnpaa.XW
