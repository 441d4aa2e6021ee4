/- What a world holds when the call begins and that no call of the program changes: a table of the library's. -/
import Derived.Test.YtoeclfihlhmnpaaDoorXW
import Derived.WalkSmall
import Derived.Lib.LaidTab
import Derived.Lib.ItoaNum
import Derived.Lib.AppendIntMem
import Derived.Test.YtoeclfihlhmnpaaDoorXL
namespace Go.Proofs.YtoeclfihlhmnpaaDoor.XW
open Go.RowKit Go.Proofs.YtoeclfihlhmnpaaDoorW.PrintWords
set_option linter.unusedVariables false
/-- The powers of ten lie where the library's code looks for them. -/
def Tab (w : World) : Prop := Lib.TabIs Tryd.prog w "internal/strconv.uint64pow10" .u64 Lib.pow10Tab
theorem var_lt {P : Program} {w : World} {n : String} {cs : Array Value} (h : w.var? P n = some cs) : ∃ g, P.globalNamed n = some g ∧ g < w.heap.size := by
  unfold World.var? at h
  obtain ⟨g, hg, h2⟩ := Option.bind_eq_some_iff.1 h
  refine ⟨g, hg, ?_⟩
  by_cases c : g < w.heap.size
  · exact c
  · rw [Array.getElem?_eq_none (by omega)] at h2
    exact absurd h2 (by simp)
theorem var_below {P : Program} {w w' : World} {n : String} {cs : Array Value} (h : w.var? P n = some cs) (hb : Below w.heap.size w w') : w'.var? P n = some cs := by
  obtain ⟨g, hg, hl⟩ := var_lt h
  exact var?_below hb hg hl h
theorem Tab.below {w w' : World} (h : Aside0 (Tab w)) (hb : Below w.heap.size w w') : Aside0 (Tab w') := ⟨var_below h.out hb⟩
/-- A row of the call's own begins at its block's first cell. -/
theorem own_at {α : Type} {d : Kd α} {e base : Nat} {ok : Nat → Prop} {w : World} {A : Option Addr} {n c : Nat} {xs : List α} (h : Aside0 (d.R e w base ok (.slice A n c) xs)) : A = none ∨ ∃ g, A = some ⟨g, 0, none⟩ := by
  obtain ⟨hok, inner, hown, hr⟩ := h.out
  rcases hown.2 with ⟨hv, _⟩ | ⟨g', cap', cur, hv, _⟩
  · injection hv with ha
    exact Or.inl ha
  · injection hv with ha
    exact Or.inr ⟨g', ha⟩
end Go.Proofs.YtoeclfihlhmnpaaDoor.XW
