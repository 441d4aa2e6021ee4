-- thin
/- Both sides ask first whether a list is a polygon. -/
import Derived.Test.YtphkphjddkjabaaX0
import Derived.Test.YtphkphjddkjabaaX4
import Derived.Test.YtphkphjddkjabaaX12
import Derived.Test.YtphkphjddkjabaaBBase
import Derived.Test.YtphkphjddkjabaaBCore
import Derived.Test.YtphkphjddkjabaaBPoly
namespace Go.Proofs.Ytphkphjddkjabaa.B
open Go.RowKit Go.Proofs.Ytphkphjddkjabaa.XW Go.Proofs.Ytphkphjddkjabaa.X Go.Proofs.YtphkphjddkjabaaW.PrintWords Go.Proofs.YtphkphjddkjabaaW.PrintLast Go.Proofs.Ytphkphjddkjabaa.B
set_option linter.unusedVariables false
set_option linter.unusedSimpArgs false
set_option maxRecDepth 20000

namespace Poly
variable {l : List S_impl_Peg} (h : Poly l)
include h
theorem big (i : Nat) (hi : i < l.length) : Sm 1000000 (pt l i) := (h.pegs i hi).mono (by omega)
end Poly
/-- The two sides ask the same first; behind a yes and a no they answer alike. -/
theorem Ev.asked {α : Type} {g : Nat → Option Bool} {f : Nat → Bool → Option α} {b : Bool} {r : α} (h : Ev g b) (hy : b = true → Ev (fun k => f k true) r) (hn : b = false → Ev (fun k => f k false) r) : Ev (fun k => (g k).bind (f k)) r := by
 cases b
 ·exact Ev.bind h (hn rfl)
 ·exact Ev.bind h (hy rfl)
theorem rd0 (l : List S_impl_Peg) : rd_impl_Peg l 0 = pt l 0 := rfl
theorem rd1 (l : List S_impl_Peg) : rd_impl_Peg l 1 = pt l 1 := rfl
theorem rd2 (l : List S_impl_Peg) : rd_impl_Peg l 2 = pt l 2 := rfl
section
variable {α : Type} {f : Nat → Bool → Option α} {r s : α} (l : List S_impl_Peg)
theorem askS (hy : Poly l → Ev (fun k => f k true) r) (hn : Ev (fun k => f k false) s) : Ev (fun k => (spec_pgGood.f k l).bind (f k)) (if good l = true then r else s) :=
 Ev.asked (ev_spec_good l) (fun h => by rw [if_pos h]; exact hy (good_iff.1 h)) (fun h => by rw [if_neg (by rw [h]; simp)]; exact hn)
theorem askI (hy : Poly l → Ev (fun k => f k true) r) (hn : Ev (fun k => f k false) s) : Ev (fun k => (impl_IsPolygon.f k l).bind (f k)) (if good l = true then r else s) :=
 Ev.asked (ev_impl_IsPolygon l) (fun h => by rw [if_pos h]; exact hy (good_iff.1 h)) (fun h => by rw [if_neg (by rw [h]; simp)]; exact hn)
end

end Go.Proofs.Ytphkphjddkjabaa.B
