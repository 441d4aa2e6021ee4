import Derived.Test.YtoeclfihlhmnpaaDoorRows
import Derived.KernelRfl
namespace Go.Proofs.YtoeclfihlhmnpaaDoor.XO
def R : List Char := List.map Char.ofNat [108, 111, 111, 112, 46, 101, 120, 97, 109, 112, 108, 101, 47, 103, 48, 49, 50, 53, 57, 47, 108, 97, 119, 115, 46, 70, 110, 69, 120, 97, 99, 116, 80, 97, 114, 115, 101, 80, 117, 122, 122, 108, 101, 32, 108, 111, 111, 112, 46, 101, 120, 97, 109, 112, 108, 101, 47, 103, 48, 49, 50, 53, 57, 47, 108, 97, 119, 115, 46, 70, 110, 69, 120, 97, 99, 116, 80, 117, 122, 122, 108, 101, 84, 101, 120, 116]
theorem ord0 : Tryd.prog.initOrder = "harness c80d3ba232a06bdc8747821c4daf5e4129bb63d6b867f98b8a7f9a30c3d5230c cut at loop.example/g01259/laws.FnExactParsePuzzle loop.example/g01259/laws.FnExactPuzzleText" := by kernel_rfl
theorem ord1 : ("harness c80d3ba232a06bdc8747821c4daf5e4129bb63d6b867f98b8a7f9a30c3d5230c cut at loop.example/g01259/laws.FnExactParsePuzzle loop.example/g01259/laws.FnExactPuzzleText" : String) = String.ofList (List.map Char.ofNat [104, 97, 114, 110, 101, 115, 115, 32, 99, 56, 48, 100, 51, 98, 97, 50, 51, 50, 97, 48, 54, 98, 100, 99, 56, 55, 52, 55, 56, 50, 49, 99, 52, 100, 97, 102, 53, 101, 52, 49, 50, 57, 98, 98, 54, 51, 100, 54, 98, 56, 54, 55, 102, 57, 56, 98, 56, 97, 55, 102, 57, 97, 51, 48, 99, 51, 100, 53, 50, 51, 48, 99, 32, 99, 117, 116, 32, 97, 116, 32, 108, 111, 111, 112, 46, 101, 120, 97, 109, 112, 108, 101, 47, 103, 48, 49, 50, 53, 57, 47, 108, 97, 119, 115, 46, 70, 110, 69, 120, 97, 99, 116, 80, 97, 114, 115, 101, 80, 117, 122, 122, 108, 101, 32, 108, 111, 111, 112, 46, 101, 120, 97, 109, 112, 108, 101, 47, 103, 48, 49, 50, 53, 57, 47, 108, 97, 119, 115, 46, 70, 110, 69, 120, 97, 99, 116, 80, 117, 122, 122, 108, 101, 84, 101, 120, 116]) := by kernel_rfl
theorem ord2 : List.map Char.ofNat [104, 97, 114, 110, 101, 115, 115, 32, 99, 56, 48, 100, 51, 98, 97, 50, 51, 50, 97, 48, 54, 98, 100, 99, 56, 55, 52, 55, 56, 50, 49, 99, 52, 100, 97, 102, 53, 101, 52, 49, 50, 57, 98, 98, 54, 51, 100, 54, 98, 56, 54, 55, 102, 57, 56, 98, 56, 97, 55, 102, 57, 97, 51, 48, 99, 51, 100, 53, 50, 51, 48, 99, 32, 99, 117, 116, 32, 97, 116, 32, 108, 111, 111, 112, 46, 101, 120, 97, 109, 112, 108, 101, 47, 103, 48, 49, 50, 53, 57, 47, 108, 97, 119, 115, 46, 70, 110, 69, 120, 97, 99, 116, 80, 97, 114, 115, 101, 80, 117, 122, 122, 108, 101, 32, 108, 111, 111, 112, 46, 101, 120, 97, 109, 112, 108, 101, 47, 103, 48, 49, 50, 53, 57, 47, 108, 97, 119, 115, 46, 70, 110, 69, 120, 97, 99, 116, 80, 117, 122, 122, 108, 101, 84, 101, 120, 116] = List.map Char.ofNat [104, 97, 114, 110, 101, 115, 115, 32, 99, 56, 48, 100, 51, 98, 97, 50, 51, 50, 97, 48, 54, 98, 100, 99, 56, 55, 52, 55, 56, 50, 49, 99, 52, 100, 97, 102, 53, 101, 52, 49, 50, 57, 98, 98, 54, 51, 100, 54, 98, 56, 54, 55, 102, 57, 56, 98, 56, 97, 55, 102, 57, 97, 51, 48, 99, 51, 100, 53, 50, 51, 48, 99, 32, 99, 117, 116, 32, 97, 116] ++ (Char.ofNat 32 :: R) := by kernel_rfl
theorem ordT : Tryd.prog.initOrder.toList = List.map Char.ofNat [104, 97, 114, 110, 101, 115, 115, 32, 99, 56, 48, 100, 51, 98, 97, 50, 51, 50, 97, 48, 54, 98, 100, 99, 56, 55, 52, 55, 56, 50, 49, 99, 52, 100, 97, 102, 53, 101, 52, 49, 50, 57, 98, 98, 54, 51, 100, 54, 98, 56, 54, 55, 102, 57, 56, 98, 56, 97, 55, 102, 57, 97, 51, 48, 99, 51, 100, 53, 50, 51, 48, 99, 32, 99, 117, 116, 32, 97, 116] ++ (Char.ofNat 32 :: R) := by rw [ord0, ord1, String.toList_ofList, ord2]
theorem words_gen (r : List Char) : behindMainWord (wordsSigns (List.map Char.ofNat [104, 97, 114, 110, 101, 115, 115, 32, 99, 56, 48, 100, 51, 98, 97, 50, 51, 50, 97, 48, 54, 98, 100, 99, 56, 55, 52, 55, 56, 50, 49, 99, 52, 100, 97, 102, 53, 101, 52, 49, 50, 57, 98, 98, 54, 51, 100, 54, 98, 56, 54, 55, 102, 57, 56, 98, 56, 97, 55, 102, 57, 97, 51, 48, 99, 51, 100, 53, 50, 51, 48, 99, 32, 99, 117, 116, 32, 97, 116] ++ (Char.ofNat 32 :: r))) = [Char.ofNat 99, Char.ofNat 117, Char.ofNat 116] :: [Char.ofNat 97, Char.ofNat 116] :: wordsSigns r := by kernel_rfl
theorem words : behindMainWord (wordsSigns Tryd.prog.initOrder.toList) = [Char.ofNat 99, Char.ofNat 117, Char.ofNat 116] :: [Char.ofNat 97, Char.ofNat 116] :: wordsSigns R := by rw [ordT, words_gen]
def C : List Char := [Char.ofNat 99, Char.ofNat 117, Char.ofNat 116]
theorem c_gc : (C == "gc".toList) = false := by kernel_rfl
theorem c_spec : (C == "spec".toList) = false := by kernel_rfl
theorem c_cut : (C == "cut".toList) = true := by kernel_rfl
theorem c_carried : (C == "carried".toList) = false := by kernel_rfl
theorem strip_gen (ws : List (List Char)) : stripLifts liftWords (C :: ws) = ([], C :: ws) := by kernel_rfl
theorem o_cut : (some C == some "cut".toList) = true := by kernel_rfl
theorem o_carried : (some C == some "carried".toList) = false := by kernel_rfl
theorem lift_gen (P : Program) (ws : List (List Char)) (h : behindMainWord (wordsSigns P.initOrder.toList) = C :: ws) : P.headLifts = [] := by
  unfold Program.headLifts
  rw [h, strip_gen]
  simp only [ite_self]
theorem final_gen (P : Program) (ws : List (List Char)) (h : behindMainWord (wordsSigns P.initOrder.toList) = C :: ws) : P.liftsFinal = false := by
  unfold Program.liftsFinal
  rw [lift_gen P ws h, h]
  simp only [List.head?_cons, o_carried, Bool.false_and, Bool.false_or, List.contains_nil]
theorem make_gen (P : Program) (ws : List (List Char)) (h : behindMainWord (wordsSigns P.initOrder.toList) = C :: ws) : P.make = some .cut := by
  unfold Program.make
  rw [h]
  simp only [c_gc, c_spec, c_cut, Bool.or_self, Bool.true_or, if_true, Bool.false_eq_true, if_false]
theorem enter_gen (P : Program) (ws : List (List Char)) (h : behindMainWord (wordsSigns P.initOrder.toList) = C :: ws) (h1 : P.laysLater = false) (h2 : P.bearsReflect = false) (h3 : P.doorFits [] = true) : P.mayEnter = true := by
  unfold Program.mayEnter
  rw [h]
  simp only [strip_gen, h1, h2, h3, List.head?_cons, o_cut, List.contains_nil, Bool.not_false, Bool.or_true, Bool.and_true]
theorem words' : behindMainWord (wordsSigns Tryd.prog.initOrder.toList) = C :: [Char.ofNat 97, Char.ofNat 116] :: wordsSigns R := words
theorem liftsFinal : Tryd.prog.liftsFinal = false := final_gen _ _ words'
theorem make : Tryd.prog.make = some .cut := make_gen _ _ words'
theorem lays : Tryd.prog.laysLater = false := by kernel_rfl
theorem bears : Tryd.prog.bearsReflect = false := by kernel_rfl
theorem door : Tryd.prog.doorFits [] = true := by kernel_rfl
theorem mayEnter : Tryd.prog.mayEnter = true := enter_gen _ _ words' lays bears door
theorem band {a b : Bool} (h : a = true) (k : b = true) : (a && b) = true := by rw [h, k]; rfl
theorem pinned_eq : Tryd.pinned.checked.prog = Tryd.prog := by kernel_rfl
theorem enter_of : Tryd.pinned.checked.prog.mayEnter = true := by rw [pinned_eq]; exact mayEnter
theorem lifts_of {b : Bool} (h : b = false) : (b == Tryd.pinned.checked.prog.liftsFinal) = true := by rw [pinned_eq, liftsFinal, h]; rfl
theorem make_of {m : Make} (h : m = .cut) : (Tryd.pinned.checked.prog.make == some m) = true := by rw [pinned_eq, make, h]; rfl
end Go.Proofs.YtoeclfihlhmnpaaDoor.XO
