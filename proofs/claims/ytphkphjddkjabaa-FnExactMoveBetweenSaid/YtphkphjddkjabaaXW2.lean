/- Small lemmas beside the printed words: 'make' of no elements with room for some. -/
import Derived.Test.YtphkphjddkjabaaXW
namespace Go.Proofs.YtphkphjddkjabaaW.PrintWords
open Go.RowKit
set_option linter.unusedVariables false
set_option linter.unusedSimpArgs false
namespace Kd
section
variable {P : Program} {ops : Array Oper} {rest : List Oper} {o : Oper} {a : Act} {Q : Exit → Act → World → Prop} {α : Type}
/-- make([]T, 0, n): no elements, room for n. -/
theorem R_makecap (d : Kd α) {w0 W : World} (base e : Nat) (hgd : o.guard = none) {N : Tmp} (hd : o.dst = some N) (t : TypeId) (x y : Operand) (ho : o.op = .makeSlice t x y) (n : Int) (hx : a.eval x = .int .i64 0) (hy : a.eval y = .int .i64 n)
    (ht : P.underlying t = some (.slice e)) (z : Value) (bytes : Nat) (hinfo : (P.info? e).map (fun i => (i.zero, i.size, i.bytes)) = some (some z, d.sz, bytes)) (hz : z.cells.size = d.sz) (hs0 : 0 < d.sz) (hb0 : 0 < bytes)
    (z0 : α) {ok okp : Nat → Prop} (hzero : d.M W base okp z0 z.cells.toList) (hok : ∀ k, okp k → ok k) (hfresh : ok W.heap.size) (h0 : 0 ≤ n) (hl : n.toNat * bytes ≤ 281474976710656) (HB : Below base w0 W) (hbase : base ≤ W.heap.size)
    (h : ∀ v1 w1, d.R e w1 base ok v1 ([] : List α) → Below base w0 w1 → W.grownBy w1 none → (∃ b, v1.ownBlock = some b ∧ W.heap.size ≤ b) → wpList P ops Q rest (a.put o.dst v1) w1) : wpList P ops Q (o :: rest) a W := by
  obtain ⟨m, rfl⟩ := Int.eq_ofNat_of_zero_le h0
  simp only [Int.toNat_natCast] at hl h
  obtain ⟨i0, hi, hzz⟩ := Option.map_eq_some_iff.1 hinfo
  simp only [Prod.mk.injEq] at hzz
  obtain ⟨hz0, hz1, hz2⟩ := hzz
  have hm : m ≤ 281474976710656 := Nat.le_trans (Nat.le_mul_of_pos_right _ hb0) hl
  have hr := run_make (P := P) W t e i0 z ht hi hz0 .i64 .i64 (0 : Int) (m : Int) (by omega) (by omega)
    (by
      have h3 : ((i0.bytes * m : Nat) : Int) ≤ 281474976710656 := by rw [hz2, Nat.mul_comm]; omega
      rwa [Int.natCast_mul] at h3) (by omega)
  simp only [Int.toNat_natCast, Int.toNat_zero] at hr
  rw [hz1] at hr
  have hsz : ((madeCells z.cells (m * d.sz)).toList).length = m * d.sz := by simp [size_madeCells]
  have h2 := World.ownsRow_lit (base := base) (e := e) (size := d.sz) W (madeCells z.cells (m * d.sz)) m hbase (by simpa [maxLen] using (by omega : m ≤ 9223372036854775807)) (by simp [size_madeCells])
  have h3 := own_take (m := 0) h2 (Nat.zero_le _)
  rw [Nat.zero_mul, List.take_zero] at h3
  refine event_run (v := .slice (some ⟨W.heap.size, 0, none⟩) 0 m) (w1 := W.alloc (.cells (madeCells z.cells (m * d.sz)) e)) hgd (by simp [execOp, ho, hx, hy, hr]) (h _ _ ⟨fun k hk => ?_, [], ?_, Reps.none _ _⟩ (HB.alloc hbase _) (World.grownBy_alloc W _ none) ⟨W.heap.size, by simp [Value.ownBlock], Nat.le_refl _⟩)
  · have : W.heap.size = k := by simpa [Value.ownBlock] using hk
    subst this
    exact hfresh
  · simpa using h3
end
/-- A literal of three rows that stand in blocks of their own, in a region that draws its order. -/
theorem S_lits3_step {α : Type} {P : Program} {ops : Array Oper} {o : Oper} {a : Act} {Kc : Act → World → Prop} {Q : Exit → Act → World → Prop} (d : Kd α) {W : World} (base e e1 : Nat) (hw : Region.wanted o (yielded ops a.tmps) = true) {N : Tmp} (hd : o.dst = some N) {x1 x2 x3 : List α} {u1 u2 u3 : Value} {ok : Nat → Prop}
    (hE : d.E = []) (h1 : d.R e1 W base ok u1 x1) (h2 : d.R e1 W base ok u2 x2) (h3 : d.R e1 W base ok u3 x3)
    (d12 : ∀ k, some k = u1.ownBlock → some k ≠ u2.ownBlock) (d13 : ∀ k, some k = u1.ownBlock → some k ≠ u3.ownBlock) (d23 : ∀ k, some k = u2.ownBlock → some k ≠ u3.ownBlock)
    (hrun : (execOp a.eval o).run P W = .ok (.value (.slice (some ⟨W.heap.size, 0, none⟩) 3 3)) (W.alloc (.cells #[u1, u2, u3] e)))
    (hfresh : ok W.heap.size) (hbase : base ≤ W.heap.size)
    (h : ∀ v1 w1, S (Kd.slice e1 d) e w1 base ok v1 [x1, x2, x3] → Below W.heap.size W w1 → W.grownBy w1 none → (∃ b, v1.ownBlock = some b ∧ W.heap.size ≤ b) → Kc (a.put o.dst v1) w1) :
    if Region.wanted o (yielded ops a.tmps) = true then Oper.wp P o a W Kc Q else Kc (a.put o.dst undef) W := by
  refine S_lits_step (Kd.slice e1 d) base e hw hd (w0 := W) (xs := [x1, x2, x3]) (inner := [u1, u2, u3]) (ok := ok) (fun j k => (j = 0 ∧ some k = u1.ownBlock) ∨ (j = 1 ∧ some k = u2.ownBlock) ∨ (j = 2 ∧ some k = u3.ownBlock)) hrun rfl ?_ ?_ ?_ hfresh (Below.refl _ _) hbase (by simp) (fun v1 w1 hs _ hg hn => h v1 w1 hs ((Below.refl W.heap.size W).grown hg (Nat.le_refl _) (fun k hk => by simp at hk)) hg hn)
  · intro j x hx
    match j, hx with
    | 0, hx =>
      obtain rfl : x1 = x := by simpa using hx
      exact M_row (R_mono (R_tight hE h1) (fun k hk => Or.inl ⟨rfl, hk⟩))
    | 1, hx =>
      obtain rfl : x2 = x := by simpa using hx
      exact M_row (R_mono (R_tight hE h2) (fun k hk => Or.inr (Or.inl ⟨rfl, hk⟩)))
    | 2, hx =>
      obtain rfl : x3 = x := by simpa using hx
      exact M_row (R_mono (R_tight hE h3) (fun k hk => Or.inr (Or.inr ⟨rfl, hk⟩)))
    | j + 3, hx => exact absurd hx (by simp)
  · rintro i j k (⟨rfl, a1⟩ | ⟨rfl, a1⟩ | ⟨rfl, a1⟩) (⟨rfl, a2⟩ | ⟨rfl, a2⟩ | ⟨rfl, a2⟩)
    · rfl
    · exact absurd a2 (d12 k a1)
    · exact absurd a2 (d13 k a1)
    · exact absurd a1 (d12 k a2)
    · rfl
    · exact absurd a2 (d23 k a1)
    · exact absurd a1 (d13 k a2)
    · exact absurd a1 (d23 k a2)
    · rfl
  · rintro j k (⟨_, a1⟩ | ⟨_, a1⟩ | ⟨_, a1⟩)
    · exact h1.1 k a1.symm
    · exact h2.1 k a1.symm
    · exact h3.1 k a1.symm
/-- Two rows of rows, the later one made by this event: a size parts them. -/
theorem S_apart2 {α β : Type} {d : Kd α} {d' : Kd β} {e e' base : Nat} {w w1 : World} {ok3 ok5 : Nat → Prop} {v3 v5 : Value} {x3 : List α} {x5 : List β} (h3 : S d e w base ok3 v3 x3) (h5 : S d' e' w1 w.heap.size ok5 v5 x5) (hb : Below w.heap.size w w1) :
    ∃ nb : Nat, S d e w1 base (fun k => ok3 k ∧ k < nb) v3 x3 ∧ S d' e' w1 w.heap.size (fun k => ok5 k ∧ nb ≤ k) v5 x5 ∧ ∀ k, k < w.heap.size → k < nb :=
  ⟨w.heap.size, S_old h3 hb, S_mono (S_bound h5) (fun _ hk => ⟨hk.1, hk.2.1⟩), fun _ h => h⟩
end Kd
end Go.Proofs.YtphkphjddkjabaaW.PrintWords
namespace Go.Proofs.YtphkphjddkjabaaW.PrintLast
open Go.RowKit
section
variable {P : Program} {md : Region.Mode} {ops : Array Oper} {ds : List Nat} {Q : Exit → Act → World → Prop} {S : World → Prop}
/-- An operation that leaves the world as it is keeps whatever held. -/
theorem AllReadyL.cons_w {fuel : Nat} {listed : Array Bool} {a : Act} {w : World} {i : Nat} {o : Oper} {rs : List Nat} (ho : ops[i]? = some o)
    (h : ∀ K' : Act → World → Prop, Shut (∀ a', wpAnyLast P md ops Q S ds fuel (listed.setIfInBounds i true) a' w → K' a' w) → if Region.wanted o (yielded ops a.tmps) = true then Oper.wp P o a w K' Q else K' (a.put o.dst undef) w)
    (hs : AllReadyL P md ops Q S ds fuel listed a w rs) : AllReadyL P md ops Q S ds fuel listed a w (i :: rs) := fun j hj => by
  rcases List.mem_cons.1 hj with rfl | hj
  · exact wpOp_step ho (fun K' hK => h K' (fun a' hW => hK a' w ⟨fun _ hS => hS, hW⟩))
  · exact hs j hj
/-- One operation, behind an operation of ds, that leaves the world as it is. -/
theorem oneW_ {i : Nat} {N : Option Tmp} {oi : Oper} {fuel : Nat} {l : Array Bool} {a : Act} {w : World} (l' : Array Bool) (hi : ops[i]? = some oi) (hN : oi.dst = N) (hc : readyB md ops l l' i = true)
    (h : ∀ K : Act → World → Prop, Shut (∀ a', wpAnyLast P md ops Q S ds fuel l' a' w → K a' w) → if Region.wanted oi (yielded ops a.tmps) = true then Oper.wp P oi a w K Q else K (a.put N undef) w) :
    wpAnyLast P md ops Q S ds (fuel + 1) l a w := by
  subst hN
  simp only [readyB, Bool.and_eq_true, beq_iff_eq] at hc
  obtain ⟨h1, h2⟩ := hc
  subst h2
  exact wpAnyLast_ready h1 (by simp) (AllReadyL.cons_w hi (fun K hK => h K hK) AllReadyL.nil)
/-- Two operations may come up: one that leaves the world as it is, one of ds. -/
theorem twoW_ {i j : Nat} {Ni Nj : Option Tmp} {oi oj : Oper} {fuel : Nat} {l : Array Bool} {a : Act} {w : World} (li lj : Array Bool) (hi : ops[i]? = some oi) (hj : ops[j]? = some oj) (hNi : oi.dst = Ni) (hNj : oj.dst = Nj)
    (hc : (Region.ready md ops l == [i, j] && l.setIfInBounds i true == li && l.setIfInBounds j true == lj) = true) (hdj : j ∈ ds)
    (h1 : ∀ K : Act → World → Prop, Shut (∀ a', wpAnyLast P md ops Q S ds fuel li a' w → K a' w) → if Region.wanted oi (yielded ops a.tmps) = true then Oper.wp P oi a w K Q else K (a.put Ni undef) w)
    (h2 : ∀ K : Act → World → Prop, Shut (∀ a' w', wpAnyLast P md ops Q S ds fuel lj a' w' → K a' w') → if Region.wanted oj (yielded ops a.tmps) = true then Oper.wp P oj a w K Q else K (a.put Nj undef) w) :
    wpAnyLast P md ops Q S ds (fuel + 1) l a w := by
  subst hNi
  subst hNj
  simp only [Bool.and_eq_true, beq_iff_eq] at hc
  obtain ⟨⟨h3, h4⟩, h5⟩ := hc
  subst h4
  subst h5
  exact wpAnyLast_ready h3 (by simp) (AllReadyL.cons_w hi (fun K hK => h1 K hK) (AllReadyL.cons_last hj hdj (fun K hK => h2 K hK) AllReadyL.nil))
end
end Go.Proofs.YtphkphjddkjabaaW.PrintLast
