/- The words that the program's head bears, told as a list of signs: what the rows' closed facts read of it. -/
import Derived.Test.YtioahngbfdfcaaaGreatDoorRows
import Derived.JoinedOf
import Derived.JoinedCond
import Derived.KernelRfl
namespace Go.Proofs.YtioahngbfdfcaaaGreatDoor.Head
open Go
theorem may_of (P : Program) (c : List Char) (rest : List (List Char)) (h : behindMainWord (wordsSigns P.initOrder.toList) = c :: rest) (h1 : ((stripLifts liftWords (c :: rest)).2.head? == some "cut".toList) = true)
    (h2 : P.laysLater = false) (h3 : P.bearsReflect = false) (h4 : (stripLifts liftWords (c :: rest)).1 = []) (h5 : P.doorFits [] = true) : P.mayEnter = true := by
  unfold Program.mayEnter; rw [h]
  simp only [h1, h2, h3, h4, h5, Bool.not_false, Bool.or_true, Bool.and_true, List.contains_nil]
theorem make_of (P : Program) (c : List Char) (rest : List (List Char)) (h : behindMainWord (wordsSigns P.initOrder.toList) = c :: rest) (h1 : (c == "gc".toList || c == "spec".toList) = false) (h2 : (c == "cut".toList) = true) : P.make = some .cut := by
  unfold Program.make; rw [h]
  simp only [h1, h2, Bool.true_or, if_true, Bool.false_eq_true, if_false]
theorem lifts_of (P : Program) (c : List Char) (rest : List (List Char)) (h : behindMainWord (wordsSigns P.initOrder.toList) = c :: rest) (h4 : (stripLifts liftWords (c :: rest)).1 = []) : P.headLifts = [] := by
  unfold Program.headLifts; rw [h]
  simp only [h4, ite_self]
theorem final_of (P : Program) (c : List Char) (rest : List (List Char)) (h : behindMainWord (wordsSigns P.initOrder.toList) = c :: rest) (hl : P.headLifts = []) (h1 : (c == "carried".toList) = false) : P.liftsFinal = false := by
  unfold Program.liftsFinal; rw [h, hl]
  have h2 : ((c :: rest).head? == some "carried".toList) = false := h1
  simp only [h2, Bool.false_and, Bool.false_or, List.contains_nil]
theorem main_of (P : Program) (h s : List Char) (rest : List (List Char)) (hw : wordsSigns P.initOrder.toList = h :: s :: rest) (h1 : isSumSigns s = true) (h2 : (h == "harness".toList) = true) : P.mainIs = some (true, s) := by
  unfold Program.mainIs; rw [hw]
  simp only [h1, h2, Bool.not_true, Bool.false_eq_true, if_false, if_true]
theorem behind_of (h s : List Char) (rest : List (List Char)) (h1 : isSumSigns s = true) (h2 : (h == "harness".toList) = true) : behindMainWord (h :: s :: rest) = rest := by
  unfold behindMainWord
  simp only [h1, h2, Bool.true_or, Bool.and_self, if_true]
def cs : List Nat := [104, 97, 114, 110, 101, 115, 115, 32, 49, 48, 55, 52, 56, 97, 100, 54, 100, 56, 100, 97, 57, 97, 102, 52, 48, 54, 54, 100, 54, 54, 100, 54, 57, 50, 102, 102, 102, 57, 51, 101, 51, 50, 97, 57, 55, 56, 101, 102, 102, 101, 53, 101, 55, 99, 102, 100, 56, 53, 49, 102, 99, 100, 97, 100, 55, 55, 98, 55, 53, 53, 54, 50, 32, 99, 117, 116, 32, 97, 116, 32, 116, 117, 109, 98, 108, 101, 114, 47, 116, 117, 109, 98, 108, 101, 114, 108, 97, 119, 48, 52, 46, 76, 105, 110, 101, 66, 97, 99, 107]
set_option maxRecDepth 100000 in
theorem head_is : Tryz.prog.initOrder = String.ofList (cs.map Char.ofNat) := by kernel_rfl
theorem head_list : Tryz.prog.initOrder.toList = cs.map Char.ofNat := by rw [head_is]; exact String.toList_ofList
def mainSum : List Nat := [49, 48, 55, 52, 56, 97, 100, 54, 100, 56, 100, 97, 57, 97, 102, 52, 48, 54, 54, 100, 54, 54, 100, 54, 57, 50, 102, 102, 102, 57, 51, 101, 51, 50, 97, 57, 55, 56, 101, 102, 102, 101, 53, 101, 55, 99, 102, 100, 56, 53, 49, 102, 99, 100, 97, 100, 55, 55, 98, 55, 53, 53, 54, 50]
def rest : List (List Nat) := [[97, 116], [116, 117, 109, 98, 108, 101, 114, 47, 116, 117, 109, 98, 108, 101, 114, 108, 97, 119, 48, 52, 46, 76, 105, 110, 101, 66, 97, 99, 107]]
def sig (w : List Nat) : List Char := w.map Char.ofNat
set_option maxRecDepth 100000 in
theorem all_words : wordsSigns Tryz.prog.initOrder.toList = sig [104, 97, 114, 110, 101, 115, 115] :: sig mainSum :: sig [99, 117, 116] :: rest.map sig := by
  rw [head_list]; kernel_rfl
theorem words_is : behindMainWord (wordsSigns Tryz.prog.initOrder.toList) = sig [99, 117, 116] :: rest.map sig := by
  rw [all_words]; exact behind_of _ _ _ (by kernel_rfl) (by kernel_rfl)
theorem main_is : Tryz.prog.mainIs = some (true, "10748ad6d8da9af4066d66d692fff93e32a978effe5e7cfd851fcdad77b75562".toList) :=
  (main_of _ _ _ _ all_words (by kernel_rfl) (by kernel_rfl)).trans (by kernel_rfl)
theorem may : Tryz.prog.mayEnter = true := may_of _ _ _ words_is (by kernel_rfl) (by kernel_rfl) (by kernel_rfl) (by kernel_rfl) (by kernel_rfl)
theorem lifts : Tryz.prog.headLifts = [] := lifts_of _ _ _ words_is (by kernel_rfl)
theorem lf : Tryz.prog.liftsFinal = false := final_of _ _ _ words_is lifts (by kernel_rfl)
theorem makeIs : Tryz.prog.make = some .cut := make_of _ _ _ words_is (by kernel_rfl) (by kernel_rfl)
end Go.Proofs.YtioahngbfdfcaaaGreatDoor.Head
