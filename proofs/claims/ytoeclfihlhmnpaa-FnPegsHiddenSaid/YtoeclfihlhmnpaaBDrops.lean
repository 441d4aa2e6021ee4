/- Clues without one, in the reference and in the program. -/
import Derived.Test.YtoeclfihlhmnpaaX0
import Derived.Test.YtoeclfihlhmnpaaX8
import Derived.Test.YtoeclfihlhmnpaaX9
import Derived.Test.YtoeclfihlhmnpaaX11
import Derived.Test.YtoeclfihlhmnpaaX12
import Derived.Test.YtoeclfihlhmnpaaBBase
import Derived.Test.YtoeclfihlhmnpaaBClueNum
import Derived.Test.YtoeclfihlhmnpaaBClues
import Derived.Test.YtoeclfihlhmnpaaBSols
namespace Go.Proofs.Ytoeclfihlhmnpaa.B
open Go.RowKit Go.Proofs.Ytoeclfihlhmnpaa.XW Go.Proofs.Ytoeclfihlhmnpaa.X Go.Proofs.YtoeclfihlhmnpaaW.PrintWords Go.Proofs.YtoeclfihlhmnpaaW.PrintLast Go.Proofs.Ytoeclfihlhmnpaa.B
set_option linter.unusedVariables false
set_option linter.unusedSimpArgs false
set_option maxRecDepth 20000

theorem erase_length {cs : List S_impl_Clue} {k : Nat} (h : k < cs.length) : (cs.eraseIdx k).length = cs.length - 1 := by
  rw [List.length_eraseIdx, if_pos h]
theorem clone_eq (cs : List S_impl_Clue) (h : cs.length ≤ 1000) : slices_Clone_impl_Clue.f cs = some cs := by
  unfold slices_Clone_impl_Clue.f
  rw [Option.bind_some]
  split
  · rw [List.nil_append]
  · rename_i h1
    rw [List.length_nil] at h1
    omega
theorem delete_eq {cs : List S_impl_Clue} {k : Nat} (hn : cs.length ≤ 1000) (h : k < cs.length) : slices_Delete_impl_Clue.f cs (k : Int) ((k : Int) + 1) = some (cs.eraseIdx k) := by
  have e : wrap64 ((k : Int) + 1) = (k : Int) + 1 := w64 (by omega)
  unfold slices_Delete_impl_Clue.f
  rw [e, if_pos (rfl : (k : Int) + 1 = (k : Int) + 1), if_neg (by omega : ¬ (k : Int) = (k : Int) + 1), if_pos (by omega : (0 : Int) ≤ (k : Int)), if_pos (by omega : (k : Int) ≤ (cs.length : Int)), if_pos (by omega : (0 : Int) ≤ (k : Int) + 1), if_pos (by omega : (k : Int) + 1 ≤ (cs.length : Int)), Int.toNat_natCast]
theorem dropped_eq {cs : List S_impl_Clue} {k : Nat} (hn : cs.length ≤ 1000) (h : k < cs.length) : impl_dropped.f cs (k : Int) = some (cs.eraseIdx k) := by
  have e : wrap64 ((k : Int) + 1) = (k : Int) + 1 := w64 (by omega)
  unfold impl_dropped.f
  rw [clone_eq cs hn, Option.bind_some, e, delete_eq hn h, Option.bind_some]
theorem without_eq {cs : List S_impl_Clue} {k : Nat} (hn : cs.length ≤ 1000) (h : k < cs.length) : spec_pzWithout.f cs (k : Int) = some (cs.eraseIdx k) := by
  have e : wrap64 ((k : Int) + 1) = (k : Int) + 1 := w64 (by omega)
  have e1 : ((k : Int) + 1).toNat = k + 1 := by omega
  have h1 : (cs.take k).length ≤ 1000 := by rw [List.length_take]; omega
  have h2 : (cs.drop (k + 1)).length ≤ 1000 := by rw [List.length_drop]; omega
  unfold spec_pzWithout.f
  rw [Option.bind_some, if_pos (by omega : (0 : Int) ≤ (k : Int)), if_pos (by omega : (k : Int) ≤ (cs.length : Int)), Option.bind_some, Int.toNat_natCast]
  split
  · rw [Option.bind_some, e, if_pos (by omega : (0 : Int) ≤ (k : Int) + 1), if_pos (by omega : (k : Int) + 1 ≤ (cs.length : Int)), Option.bind_some, e1, List.nil_append]
    split
    · rw [List.eraseIdx_eq_take_drop_succ]
    · rename_i h3; omega
  · rename_i h3
    rw [List.length_nil] at h3
    omega
section
variable {s : Int} (hs : 1 ≤ s ∧ s ≤ 12) {cs : List S_impl_Clue} (hn : cs.length ≤ 1000) (hc : ∀ c, c ∈ cs → CP s c)
include hs hn hc
theorem ev_impl_left (cs0 : List S_impl_Clue) (k : Nat) : Ev (fun q => impl_Puzzle_solutions.f q s cs0 (cs.eraseIdx k)) (sol s (cs.eraseIdx k)) :=
  ev_impl_sol hs (Nat.le_trans (List.length_eraseIdx_le _ _) hn) (CP.erase hc k) cs0
theorem ev_spec_left (k : Nat) : Ev (fun q => spec_pzAll.f q s (cs.eraseIdx k)) (sol s (cs.eraseIdx k)) :=
  ev_spec_sol hs (Nat.le_trans (List.length_eraseIdx_le _ _) hn) (CP.erase hc k)
end

end Go.Proofs.Ytoeclfihlhmnpaa.B
