import Derived.Test.YtoeclfihlhmnpaaRows
import Derived.KernelRfl
namespace Go.Proofs.Ytoeclfihlhmnpaa.XO
def R : List Char := List.map Char.ofNat [108, 111, 111, 112, 46, 101, 120, 97, 109, 112, 108, 101, 47, 103, 48, 49, 50, 53, 57, 47, 108, 97, 119, 115, 46, 70, 110, 69, 120, 97, 99, 116, 66, 97, 110, 100, 79, 102, 83, 111, 108, 117, 116, 105, 111, 110, 115, 32, 108, 111, 111, 112, 46, 101, 120, 97, 109, 112, 108, 101, 47, 103, 48, 49, 50, 53, 57, 47, 108, 97, 119, 115, 46, 70, 110, 80, 101, 103, 115, 72, 105, 100, 100, 101, 110]
theorem ord0 : Try.prog.initOrder = "harness 4f511de307c9c94f77709075bafa5ee670c7205de6efb105b4dc123b5f7a5840 cut at loop.example/g01259/laws.FnExactBandOfSolutions loop.example/g01259/laws.FnPegsHidden" := by kernel_rfl
theorem ord1 : ("harness 4f511de307c9c94f77709075bafa5ee670c7205de6efb105b4dc123b5f7a5840 cut at loop.example/g01259/laws.FnExactBandOfSolutions loop.example/g01259/laws.FnPegsHidden" : String) = String.ofList (List.map Char.ofNat [104, 97, 114, 110, 101, 115, 115, 32, 52, 102, 53, 49, 49, 100, 101, 51, 48, 55, 99, 57, 99, 57, 52, 102, 55, 55, 55, 48, 57, 48, 55, 53, 98, 97, 102, 97, 53, 101, 101, 54, 55, 48, 99, 55, 50, 48, 53, 100, 101, 54, 101, 102, 98, 49, 48, 53, 98, 52, 100, 99, 49, 50, 51, 98, 53, 102, 55, 97, 53, 56, 52, 48, 32, 99, 117, 116, 32, 97, 116, 32, 108, 111, 111, 112, 46, 101, 120, 97, 109, 112, 108, 101, 47, 103, 48, 49, 50, 53, 57, 47, 108, 97, 119, 115, 46, 70, 110, 69, 120, 97, 99, 116, 66, 97, 110, 100, 79, 102, 83, 111, 108, 117, 116, 105, 111, 110, 115, 32, 108, 111, 111, 112, 46, 101, 120, 97, 109, 112, 108, 101, 47, 103, 48, 49, 50, 53, 57, 47, 108, 97, 119, 115, 46, 70, 110, 80, 101, 103, 115, 72, 105, 100, 100, 101, 110]) := by kernel_rfl
theorem ord2 : List.map Char.ofNat [104, 97, 114, 110, 101, 115, 115, 32, 52, 102, 53, 49, 49, 100, 101, 51, 48, 55, 99, 57, 99, 57, 52, 102, 55, 55, 55, 48, 57, 48, 55, 53, 98, 97, 102, 97, 53, 101, 101, 54, 55, 48, 99, 55, 50, 48, 53, 100, 101, 54, 101, 102, 98, 49, 48, 53, 98, 52, 100, 99, 49, 50, 51, 98, 53, 102, 55, 97, 53, 56, 52, 48, 32, 99, 117, 116, 32, 97, 116, 32, 108, 111, 111, 112, 46, 101, 120, 97, 109, 112, 108, 101, 47, 103, 48, 49, 50, 53, 57, 47, 108, 97, 119, 115, 46, 70, 110, 69, 120, 97, 99, 116, 66, 97, 110, 100, 79, 102, 83, 111, 108, 117, 116, 105, 111, 110, 115, 32, 108, 111, 111, 112, 46, 101, 120, 97, 109, 112, 108, 101, 47, 103, 48, 49, 50, 53, 57, 47, 108, 97, 119, 115, 46, 70, 110, 80, 101, 103, 115, 72, 105, 100, 100, 101, 110] = List.map Char.ofNat [104, 97, 114, 110, 101, 115, 115, 32, 52, 102, 53, 49, 49, 100, 101, 51, 48, 55, 99, 57, 99, 57, 52, 102, 55, 55, 55, 48, 57, 48, 55, 53, 98, 97, 102, 97, 53, 101, 101, 54, 55, 48, 99, 55, 50, 48, 53, 100, 101, 54, 101, 102, 98, 49, 48, 53, 98, 52, 100, 99, 49, 50, 51, 98, 53, 102, 55, 97, 53, 56, 52, 48, 32, 99, 117, 116, 32, 97, 116] ++ (Char.ofNat 32 :: R) := by kernel_rfl
theorem ordT : Try.prog.initOrder.toList = List.map Char.ofNat [104, 97, 114, 110, 101, 115, 115, 32, 52, 102, 53, 49, 49, 100, 101, 51, 48, 55, 99, 57, 99, 57, 52, 102, 55, 55, 55, 48, 57, 48, 55, 53, 98, 97, 102, 97, 53, 101, 101, 54, 55, 48, 99, 55, 50, 48, 53, 100, 101, 54, 101, 102, 98, 49, 48, 53, 98, 52, 100, 99, 49, 50, 51, 98, 53, 102, 55, 97, 53, 56, 52, 48, 32, 99, 117, 116, 32, 97, 116] ++ (Char.ofNat 32 :: R) := by rw [ord0, ord1, String.toList_ofList, ord2]
theorem words_gen (r : List Char) : behindMainWord (wordsSigns (List.map Char.ofNat [104, 97, 114, 110, 101, 115, 115, 32, 52, 102, 53, 49, 49, 100, 101, 51, 48, 55, 99, 57, 99, 57, 52, 102, 55, 55, 55, 48, 57, 48, 55, 53, 98, 97, 102, 97, 53, 101, 101, 54, 55, 48, 99, 55, 50, 48, 53, 100, 101, 54, 101, 102, 98, 49, 48, 53, 98, 52, 100, 99, 49, 50, 51, 98, 53, 102, 55, 97, 53, 56, 52, 48, 32, 99, 117, 116, 32, 97, 116] ++ (Char.ofNat 32 :: r))) = [Char.ofNat 99, Char.ofNat 117, Char.ofNat 116] :: [Char.ofNat 97, Char.ofNat 116] :: wordsSigns r := by kernel_rfl
theorem words : behindMainWord (wordsSigns Try.prog.initOrder.toList) = [Char.ofNat 99, Char.ofNat 117, Char.ofNat 116] :: [Char.ofNat 97, Char.ofNat 116] :: wordsSigns R := by rw [ordT, words_gen]
def C : List Char := [Char.ofNat 99, Char.ofNat 117, Char.ofNat 116]
theorem c_gc : (C == "gc".toList) = false := by kernel_rfl
theorem c_spec : (C == "spec".toList) = false := by kernel_rfl
theorem c_cut : (C == "cut".toList) = true := by kernel_rfl
theorem c_carried : (C == "carried".toList) = false := by kernel_rfl
theorem strip_gen (ws : List (List Char)) : stripLifts liftWords (C :: ws) = ([], C :: ws) := by kernel_rfl
theorem o_cut : (some C == some "cut".toList) = true := by kernel_rfl
theorem o_carried : (some C == some "carried".toList) = false := by kernel_rfl
theorem lift_gen (P : Program) (ws : List (List Char)) (h : behindMainWord (wordsSigns P.initOrder.toList) = C :: ws) : P.headLifts = [] := by
  unfold Program.headLifts
  rw [h, strip_gen]
  simp only [ite_self]
theorem final_gen (P : Program) (ws : List (List Char)) (h : behindMainWord (wordsSigns P.initOrder.toList) = C :: ws) : P.liftsFinal = false := by
  unfold Program.liftsFinal
  rw [lift_gen P ws h, h]
  simp only [List.head?_cons, o_carried, Bool.false_and, Bool.false_or, List.contains_nil]
theorem make_gen (P : Program) (ws : List (List Char)) (h : behindMainWord (wordsSigns P.initOrder.toList) = C :: ws) : P.make = some .cut := by
  unfold Program.make
  rw [h]
  simp only [c_gc, c_spec, c_cut, Bool.or_self, Bool.true_or, if_true, Bool.false_eq_true, if_false]
theorem enter_gen (P : Program) (ws : List (List Char)) (h : behindMainWord (wordsSigns P.initOrder.toList) = C :: ws) (h1 : P.laysLater = false) (h2 : P.bearsReflect = false) (h3 : P.doorFits [] = true) : P.mayEnter = true := by
  unfold Program.mayEnter
  rw [h]
  simp only [strip_gen, h1, h2, h3, List.head?_cons, o_cut, List.contains_nil, Bool.not_false, Bool.or_true, Bool.and_true]
theorem words' : behindMainWord (wordsSigns Try.prog.initOrder.toList) = C :: [Char.ofNat 97, Char.ofNat 116] :: wordsSigns R := words
theorem liftsFinal : Try.prog.liftsFinal = false := final_gen _ _ words'
theorem make : Try.prog.make = some .cut := make_gen _ _ words'
theorem lays : Try.prog.laysLater = false := by kernel_rfl
theorem bears : Try.prog.bearsReflect = false := by kernel_rfl
theorem door : Try.prog.doorFits [] = true := by kernel_rfl
theorem mayEnter : Try.prog.mayEnter = true := enter_gen _ _ words' lays bears door
theorem band {a b : Bool} (h : a = true) (k : b = true) : (a && b) = true := by rw [h, k]; rfl
theorem pinned_eq : Try.pinned.checked.prog = Try.prog := by kernel_rfl
theorem enter_of : Try.pinned.checked.prog.mayEnter = true := by rw [pinned_eq]; exact mayEnter
theorem lifts_of {b : Bool} (h : b = false) : (b == Try.pinned.checked.prog.liftsFinal) = true := by rw [pinned_eq, liftsFinal, h]; rfl
theorem make_of {m : Make} (h : m = .cut) : (Try.pinned.checked.prog.make == some m) = true := by rw [pinned_eq, make, h]; rfl
end Go.Proofs.Ytoeclfihlhmnpaa.XO
