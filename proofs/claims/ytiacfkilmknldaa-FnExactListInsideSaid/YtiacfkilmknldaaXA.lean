import Derived.Test.YtiacfkilmknldaaXW
import Derived.Test.YtiacfkilmknldaaWApart
import Derived.Test.YtiacfkilmknldaaWArr
import Derived.Test.YtiacfkilmknldaaWAt
import Derived.Test.YtiacfkilmknldaaWEqStruct
import Derived.Test.YtiacfkilmknldaaWFoot
import Derived.Test.YtiacfkilmknldaaWFootNe
import Derived.Test.YtiacfkilmknldaaWFour
import Derived.Test.YtiacfkilmknldaaWGuard
import Derived.Test.YtiacfkilmknldaaWInv
import Derived.Test.YtiacfkilmknldaaWInvWords
import Derived.Test.YtiacfkilmknldaaWKept
import Derived.Test.YtiacfkilmknldaaWLast
import Derived.Test.YtiacfkilmknldaaWMore
import Derived.Test.YtiacfkilmknldaaWN
import Derived.Test.YtiacfkilmknldaaWNEv
import Derived.Test.YtiacfkilmknldaaWQPut
import Derived.Test.YtiacfkilmknldaaWRepsOne
import Derived.Test.YtiacfkilmknldaaWShare
import Derived.Test.YtiacfkilmknldaaWTab
import Derived.Test.YtiacfkilmknldaaWWords
import Derived.Test.YtiacfkilmknldaaWZeros
namespace Go.Proofs.Ytiacfkilmknldaa.XW
open Go.RowKit Go.Proofs.Ytiacfkilmknldaa.XW Go.Proofs.YtiacfkilmknldaaW.PrintWords Go.Proofs.YtiacfkilmknldaaW.PrintLast Go.Proofs.YtiacfkilmknldaaW.PrintMore
theorem aM : type_of% @Aside0.mk := @Aside0.mk
theorem wB : type_of% @World.block_lt_of_cell? := @World.block_lt_of_cell?
theorem sI : type_of% @List.setIfInBounds_toArray := @List.setIfInBounds_toArray
theorem sZ : type_of% @List.set_cons_zero := @List.set_cons_zero
theorem sS : type_of% @List.set_cons_succ := @List.set_cons_succ
theorem pN : type_of% @pw_below_drewN := @pw_below_drewN
theorem pD : type_of% @below_drew1 := @below_drew1
theorem pA : type_of% @below_alloc := @below_alloc
theorem pS : type_of% @below_set := @below_set
theorem pT : type_of% @below_step := @below_step
theorem pZ : type_of% @below_size := @below_size
theorem kN : type_of% @blk_drewN := @blk_drewN
theorem kD : type_of% @blk_drew := @blk_drew
theorem kA : type_of% @blk_alloc := @blk_alloc
theorem kC : type_of% @blk_cell := @blk_cell
theorem kF : type_of% @blk_frozen := @blk_frozen
theorem oB : type_of% @Option.bind_eq_some_iff := @Option.bind_eq_some_iff
theorem lT : type_of% @List.length_take := @List.length_take
theorem lD : type_of% @List.length_drop := @List.length_drop
theorem mA : type_of% @List.map_toArray := @List.map_toArray
theorem mC : type_of% @List.map_cons := @List.map_cons
theorem mN : type_of% @List.map_nil := @List.map_nil
theorem rA : type_of% @Kd.R_alloc := @Kd.R_alloc
theorem rN : type_of% @Kd.R_drewN := @Kd.R_drewN
theorem rD : type_of% @Kd.R_drew := @Kd.R_drew
theorem rR : type_of% @Kd.R_reads' := @Kd.R_reads'
theorem cA : type_of% @Kd.C_alloc := @Kd.C_alloc
theorem cN : type_of% @Kd.C_drewN := @Kd.C_drewN
theorem cD : type_of% @Kd.C_drew := @Kd.C_drew
theorem nL : type_of% @Nat.lt_of_lt_of_le := @Nat.lt_of_lt_of_le
theorem nN : type_of% @Nat.ne_of_lt := @Nat.ne_of_lt
theorem gC : type_of% @gate_callee := @gate_callee
theorem dT : type_of% @of_decide_eq_true := @of_decide_eq_true
theorem dE : type_of% @decide_eq_true := @decide_eq_true
set_option linter.unusedVariables false
theorem bQ {n : Nat} {w w' : World} (h : Below n w w' := by repeat (first | (with_reducible first | exact HB.out | apply pA | apply pN | apply pD) | exact HB.out)) : Below n w w' := h
theorem eQ {α : Sort _} {a b : α} (h : a = b := by first | rfl | (simp; done) | (simp [*]; done)) : a = b := h
theorem sQ {α : Sort _} {a b : α} (h : a = b := by (try simp only [mA, mC, mN]); first | done | rfl | (simp only [lD, lT]; rfl)) : a = b := h
theorem aQ {p : Prop} (h : p := by first | (with_reducible assumption) | assumption) : p := h
theorem kR {α : Sort _} {a b : α} (h : a = b := by kernel_rfl) : a = b := h
theorem gQ {p q : Prop} (k : Aside0 p) (h : q := by (with_reducible repeat (first | refine kN ?_ _ | refine kD ?_ | refine kA ?_ _)); exact Aside0.out (by with_reducible assumption)) : q := h
theorem rQ {p q : Prop} (k : Aside0 p) (h : q := by (with_reducible repeat (first | apply rA | apply rN | apply rD)); exact Aside0.out (by with_reducible assumption)) : q := h
end Go.Proofs.Ytiacfkilmknldaa.XW
