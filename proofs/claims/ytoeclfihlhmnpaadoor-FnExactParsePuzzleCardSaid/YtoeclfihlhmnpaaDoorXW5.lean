/- What a world holds when the call begins and that no call of the program changes: a table of the library's. -/
import Derived.Test.YtoeclfihlhmnpaaDoorXW
import Derived.WalkSmall
import Derived.Lib.LaidTab
import Derived.Lib.ItoaNum
import Derived.Lib.AppendIntMem
import Derived.Test.YtoeclfihlhmnpaaDoorXL
namespace Go.Proofs.YtoeclfihlhmnpaaDoor.XW
open Go.RowKit Go.Proofs.YtoeclfihlhmnpaaDoorW.PrintWords
set_option linter.unusedVariables false
/-- The powers of ten lie where the library's code looks for them; so do a number and two errors. -/
def Tab (w : World) : Prop := Lib.TabIs Tryd.prog w "internal/strconv.uint64pow10" .u64 Lib.pow10Tab ∧ (∃ m, w.cell? ⟨0, 0, none⟩ = some (.int .i64 m)) ∧ (∃ tp p, w.var? Tryd.prog "strconv.ErrSyntax" = some #[.iface tp p]) ∧ ∃ tp p, w.var? Tryd.prog "strconv.ErrRange" = some #[.iface tp p]
theorem var_lt {P : Program} {w : World} {n : String} {cs : Array Value} (h : w.var? P n = some cs) : ∃ g, P.globalNamed n = some g ∧ g < w.heap.size := by
  unfold World.var? at h
  obtain ⟨g, hg, h2⟩ := Option.bind_eq_some_iff.1 h
  refine ⟨g, hg, ?_⟩
  by_cases c : g < w.heap.size
  · exact c
  · rw [Array.getElem?_eq_none (by omega)] at h2
    exact absurd h2 (by simp)
theorem var_below {P : Program} {w w' : World} {n : String} {cs : Array Value} (h : w.var? P n = some cs) (hb : Below w.heap.size w w') : w'.var? P n = some cs := by
  obtain ⟨g, hg, hl⟩ := var_lt h
  exact var?_below hb hg hl h
theorem cell_lt {w : World} {a : Addr} {v : Value} (h : w.cell? a = some v) : a.block < w.heap.size := by
  by_cases c : a.block < w.heap.size
  · exact c
  · unfold World.cell? at h
    rw [Array.getElem?_eq_none (by omega)] at h
    exact absurd h (by simp)
theorem Tab.below {w w' : World} (h : Aside0 (Tab w)) (hb : Below w.heap.size w w') : Aside0 (Tab w') := by
  obtain ⟨hp, ⟨m, hm⟩, ⟨t1, p1, h1⟩, t2, p2, h2⟩ := h.out
  exact ⟨var_below hp hb, ⟨m, hb.cell (cell_lt hm) ▸ hm⟩, ⟨t1, p1, var_below h1 hb⟩, t2, p2, var_below h2 hb⟩
theorem Tab.pow {w : World} (h : Aside0 (Tab w)) : Lib.TabIs Tryd.prog w "internal/strconv.uint64pow10" .u64 Lib.pow10Tab := h.out.1
/-- A row of the call's own begins at its block's first cell. -/
theorem own_at {α : Type} {d : Kd α} {e base : Nat} {ok : Nat → Prop} {w : World} {A : Option Addr} {n c : Nat} {xs : List α} (h : Aside0 (d.R e w base ok (.slice A n c) xs)) : A = none ∨ ∃ g, A = some ⟨g, 0, none⟩ := by
  obtain ⟨hok, inner, hown, hr⟩ := h.out
  rcases hown.2 with ⟨hv, _⟩ | ⟨g', cap', cur, hv, _⟩
  · injection hv with ha
    exact Or.inl ha
  · injection hv with ha
    exact Or.inr ⟨g', ha⟩
end Go.Proofs.YtoeclfihlhmnpaaDoor.XW
