/- Small lemmas beside the printed words: a slice that the library's Grow makes out of nil. -/
import Derived.Test.YtoeclfihlhmnpaaXW
import Derived.Lib.AppendZerosOnto
import Derived.Lib.AppendZeros
import Derived.Laws.Append
import Derived.Laws.AppendOwn
namespace Go.Proofs.YtoeclfihlhmnpaaW.PrintWords
open Go.RowKit
set_option linter.unusedVariables false
set_option linter.unusedSimpArgs false
namespace Kd
/-- append(nil, make(..)): a new row of zero values. -/
theorem run_grow_nil {P : Program} (w : World) (t tn ty e : TypeId) {z : Value} {sz bytes : Nat} (ht : P.underlying t = some (.slice e)) (htn : P.underlying tn = some (.int .i64))
    (hinfo : (P.info? e).map (fun i => (i.zero, i.size, i.bytes)) = some (some z, sz, bytes)) (n : Nat) (h0 : 0 < n) (hs : 0 < sz) (h63 : n ≤ 9223372036854775807) (hbig : n * bytes ≤ 140737488355328) :
    (Builtin.append_ #[t, tn] ty #[.slice none 0 0, .int .i64 (n : Int)]).run P w =
      .ok (.slice (some ⟨w.heap.size, 0, none⟩) n (grownCap w n 0 e)) (w.drew.alloc (.cells (Builtin.zeroCells z.cells n ++ Builtin.zeroCells z.cells (grownCap w n 0 e - n)) e)) := by
  obtain ⟨i0, hi, hzz⟩ := Option.map_eq_some_iff.1 hinfo
  simp only [Prod.mk.injEq] at hzz
  obtain ⟨hz0, hz1, hz2⟩ := hzz
  have h := Lib.run_append_grow_zeros w t tn ty e i0 z .i64 .i64 ht htn hi hz0 none 0 0 [] (run_firstCells_none w.drew i0.size 0 0 0) n h0 (by omega) (by omega) (by omega) (by rw [hz2]; omega) (growslice_fits (by omega) (by rw [hz2, Nat.zero_add]; exact hbig))
  simp only [Nat.zero_add] at h
  rw [show ([] : List Value).toArray = #[] from rfl, Array.empty_append] at h
  exact h
theorem zeroCells_size (z : Array Value) (n : Nat) : (Builtin.zeroCells z n).size = n * z.size := by
  unfold Builtin.zeroCells
  simp
/-- The room behind a row of no elements. -/
theorem R_room {α : Type} (d : Kd α) (w : World) (e base n G : Nat) (z : Array Value) (hz : z.size = d.sz) (hbase : base ≤ w.heap.size) (hG : G ≤ 9223372036854775807) (hn : n ≤ G) :
    d.R e (w.drew.alloc (.cells (Builtin.zeroCells z n ++ Builtin.zeroCells z (G - n)) e)) base (fun _ => True) (.slice (some ⟨w.heap.size, 0, none⟩) 0 G) ([] : List α) := by
  have hw : w.drew.heap.size = w.heap.size := rfl
  have h2 := World.ownsRow_lit (base := base) (e := e) (size := d.sz) w.drew (Builtin.zeroCells z n ++ Builtin.zeroCells z (G - n)) G (by rw [hw]; exact hbase) (by simpa [maxLen] using hG)
    (by rw [Array.size_append, zeroCells_size, zeroCells_size, hz, ← Nat.add_mul]; congr 1; omega)
  have h3 := own_take (m := 0) h2 (Nat.zero_le _)
  rw [Nat.zero_mul, List.take_zero, hw] at h3
  exact ⟨fun _ _ => trivial, [], by simpa using h3, Reps.none _ _⟩
end Kd
end Go.Proofs.YtoeclfihlhmnpaaW.PrintWords
