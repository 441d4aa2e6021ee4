/- Small lemmas beside the printed words: clear of what lies behind a row, a row that is copied. -/
import Derived.Test.YtoeclfihlhmnpaaXW
namespace Go.Proofs.YtoeclfihlhmnpaaW.PrintWords
open Go.RowKit
set_option linter.unusedVariables false
set_option linter.unusedSimpArgs false
namespace Kd
section
variable {P : Program} {ops : Array Oper} {rest : List Oper} {o : Oper} {a : Act} {Q : Exit → Act → World → Prop} {α : Type}
/-- What a write into a row's spare room leaves of it. -/
theorem R_tail (d : Kd α) {W : World} {base e : Nat} {ok : Nat → Prop} {g m c k : Nat} {ys : List α} (HO : d.R e W base ok (.slice (some ⟨g, 0, none⟩) m c) ys) (vs : List Value) (hl : vs.length = k * d.sz) (hk : m + k ≤ c) :
    d.R e (W.setCells g (m * d.sz) vs) base ok (.slice (some ⟨g, 0, none⟩) m c) ys ∧ W.grownBy (W.setCells g (m * d.sz) vs) (some g) := by
  obtain ⟨s1, s2, s3, s4⟩ := setCells_same g vs (m * d.sz) W
  have hg : W.grownBy (W.setCells g (m * d.sz) vs) (some g) := ⟨s1, s2, s3, by rw [s4]; exact Nat.le_refl _, fun j _ hj => setCells_far vs _ j (fun he => hj (by rw [he]))⟩
  refine ⟨?_, hg⟩
  obtain ⟨hok, inner, hown, hr⟩ := HO
  refine ⟨hok, inner, ?_, hr.imp_ (fun _ _ hp => d.M_move (fun j hj => setCells_far vs _ j (fun he => hj.2 (by rw [he]; simp [Value.ownBlock]))) hp)⟩
  refine ⟨hown.1, ?_⟩
  rcases hown.2 with ⟨hv, _⟩ | ⟨g', cap', cur, hv, hb, hh, hnc, hcm, hcs, htake⟩
  · cases hv
  injection hv with ha hm hc
  injection ha with ha
  injection ha with hg'
  subst hg'; subst hc; subst hm
  have h1 : (ys.length + k) * d.sz ≤ c * d.sz := Nat.mul_le_mul_right _ hk
  rw [Nat.add_mul] at h1
  obtain ⟨cur', h3, h4, h5⟩ := setCells_row vs (ys.length * d.sz) W cur hh (by omega)
  refine .inr ⟨g, c, cur', rfl, hb, h3, hnc, hcm, by rw [h4, hcs], ?_⟩
  have hln : (cur.toList.take (ys.length * d.sz)).length = ys.length * d.sz := by
    have hsz : cur.toList.length = cur.size := by simp
    rw [List.length_take]
    omega
  rw [h5, List.append_assoc, List.take_append_of_le_length (by omega), List.take_of_length_le (by omega)]
  exact htake
theorem zeroCells_length (z : Array Value) (n : Nat) : (Builtin.zeroCells z n).toList.length = n * z.size := by
  unfold Builtin.zeroCells
  simp
/-- clear(s[i:]) where s[:i] is what goes on. -/
theorem R_clear_tail (d : Kd α) {w0 W : World} (base : Nat) (hgd : o.guard = none) (x : Operand) (t e : TypeId) (ho : o.op = .call { callee := .builtin .clear, args := #[x], argTypes := #[t] })
    (ht : P.underlying t = some (.slice e)) (z : Value) (hinfo : (P.info? e).map (fun i => (i.zero, i.size)) = some (some z, d.sz)) (hz : z.cells.size = d.sz) (h1 : ∀ u ∈ z.cells.toList, u.oneCell' = true)
    {m m' c k c2 size : Nat} {A A' : Option Addr} {ys : List α} {ok : Nat → Prop} (hx : a.eval x = .slice A' k c2) (hA' : A' = if c = m' then A else A.map (·.add (m' * size))) (hs : size = d.sz) (hm : m = m') (hk : m + k ≤ c)
    (HO : d.R e W base ok (.slice A m c) ys) (HB : Below base w0 W) (hbase : base ≤ W.heap.size)
    (h : ∀ w1, d.R e w1 base ok (.slice A m c) ys → Below base w0 w1 → W.grownBy w1 (Value.slice A m c).ownBlock → wpList P ops Q rest (a.put o.dst (.tuple #[])) w1) : wpList P ops Q (o :: rest) a W := by
  subst hm hs hA'
  obtain ⟨i0, hi, hzz⟩ := Option.map_eq_some_iff.1 hinfo
  simp only [Prod.mk.injEq] at hzz
  obtain ⟨hz0, hsz⟩ := hzz
  have key : ∃ w1, (Builtin.clear_ #[t] o.type #[.slice (if c = m then A else A.map (·.add (m * d.sz))) k c2]).run P W = .ok (.tuple #[]) w1 ∧ d.R e w1 base ok (.slice A m c) ys ∧ W.grownBy w1 (Value.slice A m c).ownBlock := by
    by_cases hk0 : k = 0
    · subst hk0
      refine ⟨W, ?_, HO, World.grownBy.refl W _⟩
      cases hA : (if c = m then A else A.map (·.add (m * d.sz))) with
      | none => simp [Builtin.clear_, run_underlying ht]
      | some ad => simp [Builtin.clear_, run_underlying ht]
    · obtain ⟨g, rfl⟩ : ∃ g, A = some ⟨g, 0, none⟩ := by
        obtain ⟨_, inner, hown, _⟩ := HO
        rcases hown.2 with ⟨hv, _⟩ | ⟨g', cap', cur, hv, _⟩
        · injection hv with h2 h3 h4
          omega
        · injection hv with h2 h3 h4
          exact ⟨g', h2⟩
      have hcm : ¬ c = m := by omega
      obtain ⟨hR, hg⟩ := R_tail d HO (Builtin.zeroCells z.cells k).toList (by rw [zeroCells_length, hz]) hk
      refine ⟨_, ?_, hR, hg⟩
      obtain ⟨_, inner, hown, _⟩ := HO
      rcases hown.2 with ⟨hv, _⟩ | ⟨g', cap', cur, hv, hb, hh, hnc, hcmx, hcs, htake⟩
      · cases hv
      injection hv with ha hm hc
      injection ha with ha
      injection ha with hg'
      subst hg'; subst hc
      rw [if_neg hcm, Option.map_some, show (⟨g, 0, none⟩ : Addr).add (m * d.sz) = ⟨g, m * d.sz, none⟩ by unfold Addr.add; split <;> simp_all]
      have h2 : (m + k) * d.sz ≤ c * d.sz := Nat.mul_le_mul_right _ hk
      rw [Nat.add_mul] at h2
      have hone : ∀ u ∈ (Builtin.zeroCells z.cells k).toList, u.oneCell' = true := by
        intro u hu
        unfold Builtin.zeroCells at hu
        simp only [Array.toList_map, List.mem_map] at hu
        obtain ⟨q, hq, rfl⟩ := hu
        have hq' : q < k * z.cells.size := by simpa using hq
        have hzp : 0 < z.cells.size := by
          rcases Nat.eq_zero_or_pos z.cells.size with h | h
          · rw [h, Nat.mul_zero] at hq'; omega
          · exact h
        rw [getElem!_pos z.cells (q % z.cells.size) (Nat.mod_lt _ hzp)]
        exact h1 _ (by rw [Array.mem_toList_iff]; exact Array.getElem_mem _)
      have hst := run_storeCells_cells (P := P) g (m * d.sz) (Builtin.zeroCells z.cells k).toList 0 W (fun j hj => by rw [zeroCells_length, hz] at hj; rw [cell_of_row W g _ cur e (0, 0) hh]; simp; omega) (fun j _ => blk_frozen hh _) hone
      rw [Nat.add_zero] at hst
      obtain ⟨k', rfl⟩ : ∃ k', k = k' + 1 := ⟨k - 1, by omega⟩
      simp [Builtin.clear_, run_underlying ht, zeroValue, typeInfo, hi, hz0, hst]
  obtain ⟨w1, hr, hR, hg⟩ := key
  refine wpList_plain hgd fun K hK => ?_
  unfold Oper.wp execOp
  simp only [ho, resolve, invoke, builtin, Sem.run_bind, Sem.run_pure, Result.andThen_ok, List.map_toArray, List.map_cons, List.map_nil, hx, hr]
  exact hK _ _ (h w1 hR (HB.grown hg hbase (fun j hj => R_base HO j hj)) hg)
end
end Kd
section
variable {P : Program}
/-- 'xs == nil'. -/
theorem eq_nil (t e : TypeId) (ht : P.underlying t = some (.slice e)) (A : Option Addr) (c : Nat) : ∀ (n : Nat) (W : World), (binOp .eql t (.slice A n c) (.slice none 0 0)).run P W = .ok (.bool A.isNone) W := by
  intro n W
  have h : ∀ d : Nat, (Op.equalIn (d + 1) t (.slice A n c) (.slice none 0 0)).run P W = .ok A.isNone W := fun d => by
    cases A <;> simp [Op.equalIn, run_underlying ht]
  simp only [binOp]
  simp [Op.equal, Op.maxDepth, h 9999]
/-- xs[lo:hi] where hi may lie in the spare room. -/
theorem cut_room (t e : TypeId) (kl kh : IntKind) {i : TypeInfo} (ht : P.underlying t = some (.slice e)) (hi : P.info? e = some i) (size : Nat) (hsz : i.size = size) (A : Option Addr) (n c : Nat) (lo hi' : Int) (h0 : 0 ≤ lo) (h1 : lo ≤ hi') (h2 : hi' ≤ c) :
    ∀ W : World, (Instr.slice t (.slice A n c) (some (.int kl lo)) (some (.int kh hi')) none).run P W = .ok (.slice (if c = lo.toNat then A else A.map (·.add (lo.toNat * size))) (hi'.toNat - lo.toNat) (c - lo.toNat)) W := by
  intro W
  have hel : P.elem t = e := by simp [Program.elem, ht]
  have hu : P.underlying t = some (.slice (P.elem t)) := by rw [hel]; exact ht
  rw [run_slice_lh W t A n c hu kl kh lo hi' h0 h1 h2, hel]
  simp [sizeOf, typeInfo, hi, hsz, sliced, Result.andThen]
/-- xs[lo:hi:max] has a value. -/
theorem cut_max (t e : TypeId) (kl kh km : IntKind) {i : TypeInfo} (ht : P.underlying t = some (.slice e)) (hi : P.info? e = some i) (A : Option Addr) (n c : Nat) (lo hi' m : Int) (h0 : 0 ≤ lo) (h1 : lo ≤ hi') (h2 : hi' ≤ m) (h3 : m ≤ c) :
    ∃ v, ∀ W : World, (Instr.slice t (.slice A n c) (some (.int kl lo)) (some (.int kh hi')) (some (.int km m))).run P W = .ok v W := by
  have hel : P.elem t = e := by simp [Program.elem, ht]
  have hu : P.underlying t = some (.slice (P.elem t)) := by rw [hel]; exact ht
  refine ⟨.slice (if m.toNat = lo.toNat then A else A.map (·.add (lo.toNat * i.size))) (hi'.toNat - lo.toNat) (m.toNat - lo.toNat), fun W => ?_⟩
  rw [run_slice_lhm W t A n c hu kl kh km lo hi' m h0 h1 h2 h3, hel]
  simp [sizeOf, typeInfo, hi, sliced, Result.andThen]
end
end Go.Proofs.YtoeclfihlhmnpaaW.PrintWords
