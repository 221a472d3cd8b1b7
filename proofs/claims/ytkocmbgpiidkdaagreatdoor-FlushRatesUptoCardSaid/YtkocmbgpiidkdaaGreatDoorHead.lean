/- The words that the program's head bears, told as a list of signs: what the rows' closed facts read of it. -/
import Derived.Test.YtkocmbgpiidkdaaGreatDoorRows
import Derived.JoinedOf
import Derived.JoinedCond
import Derived.KernelRfl
namespace Go.Proofs.YtkocmbgpiidkdaaGreatDoor.Head
open Go
theorem may_of (P : Program) (c : List Char) (rest : List (List Char)) (h : behindMainWord (wordsSigns P.initOrder.toList) = c :: rest) (h1 : ((stripLifts liftWords (c :: rest)).2.head? == some "cut".toList) = true)
    (h2 : P.laysLater = false) (h3 : P.bearsReflect = false) (h4 : (stripLifts liftWords (c :: rest)).1 = []) (h5 : P.doorFits [] = true) : P.mayEnter = true := by
  unfold Program.mayEnter; rw [h]
  simp only [h1, h2, h3, h4, h5, Bool.not_false, Bool.or_true, Bool.and_true, List.contains_nil]
theorem make_of (P : Program) (c : List Char) (rest : List (List Char)) (h : behindMainWord (wordsSigns P.initOrder.toList) = c :: rest) (h1 : (c == "gc".toList || c == "spec".toList) = false) (h2 : (c == "cut".toList) = true) : P.make = some .cut := by
  unfold Program.make; rw [h]
  simp only [h1, h2, Bool.true_or, if_true, Bool.false_eq_true, if_false]
theorem lifts_of (P : Program) (c : List Char) (rest : List (List Char)) (h : behindMainWord (wordsSigns P.initOrder.toList) = c :: rest) (h4 : (stripLifts liftWords (c :: rest)).1 = []) : P.headLifts = [] := by
  unfold Program.headLifts; rw [h]
  simp only [h4, ite_self]
theorem final_of (P : Program) (c : List Char) (rest : List (List Char)) (h : behindMainWord (wordsSigns P.initOrder.toList) = c :: rest) (hl : P.headLifts = []) (h1 : (c == "carried".toList) = false) : P.liftsFinal = false := by
  unfold Program.liftsFinal; rw [h, hl]
  have h2 : ((c :: rest).head? == some "carried".toList) = false := h1
  simp only [h2, Bool.false_and, Bool.false_or, List.contains_nil]
theorem main_of (P : Program) (h s : List Char) (rest : List (List Char)) (hw : wordsSigns P.initOrder.toList = h :: s :: rest) (h1 : isSumSigns s = true) (h2 : (h == "harness".toList) = true) : P.mainIs = some (true, s) := by
  unfold Program.mainIs; rw [hw]
  simp only [h1, h2, Bool.not_true, Bool.false_eq_true, if_false, if_true]
theorem behind_of (h s : List Char) (rest : List (List Char)) (h1 : isSumSigns s = true) (h2 : (h == "harness".toList) = true) : behindMainWord (h :: s :: rest) = rest := by
  unfold behindMainWord
  simp only [h1, h2, Bool.true_or, Bool.and_self, if_true]
def cs : List Nat := [104, 97, 114, 110, 101, 115, 115, 32, 101, 57, 48, 55, 97, 97, 100, 53, 55, 102, 52, 57, 48, 101, 48, 54, 97, 100, 52, 52, 57, 101, 52, 49, 50, 99, 57, 97, 50, 50, 55, 102, 52, 55, 97, 51, 48, 55, 57, 57, 57, 48, 99, 48, 56, 57, 98, 48, 102, 102, 57, 57, 48, 101, 50, 101, 101, 98, 100, 48, 98, 55, 51, 49, 32, 99, 117, 116, 32, 97, 116, 32, 116, 117, 109, 98, 108, 101, 114, 47, 116, 117, 109, 98, 108, 101, 114, 108, 97, 119, 49, 48, 46, 70, 108, 117, 115, 104, 82, 101, 99, 111, 114, 100, 115, 32, 116, 117, 109, 98, 108, 101, 114, 47, 116, 117, 109, 98, 108, 101, 114, 108, 97, 119, 49, 48, 46, 70, 108, 117, 115, 104, 82, 105, 115, 101, 115, 32, 116, 117, 109, 98, 108, 101, 114, 47, 116, 117, 109, 98, 108, 101, 114, 108, 97, 119, 49, 48, 46, 70, 108, 117, 115, 104, 65, 112, 97, 114, 116, 32, 116, 117, 109, 98, 108, 101, 114, 47, 116, 117, 109, 98, 108, 101, 114, 108, 97, 119, 49, 48, 46, 70, 108, 117, 115, 104, 82, 97, 116, 101, 115, 32, 116, 117, 109, 98, 108, 101, 114, 47, 116, 117, 109, 98, 108, 101, 114, 108, 97, 119, 49, 48, 46, 70, 108, 117, 115, 104, 66, 105, 110, 115, 32, 116, 117, 109, 98, 108, 101, 114, 47, 116, 117, 109, 98, 108, 101, 114, 108, 97, 119, 49, 48, 46, 70, 108, 117, 115, 104, 78, 111, 110, 101, 32, 116, 117, 109, 98, 108, 101, 114, 47, 116, 117, 109, 98, 108, 101, 114, 108, 97, 119, 49, 48, 46, 70, 108, 117, 115, 104, 83, 101, 116, 115]
set_option maxRecDepth 100000 in
theorem head_is : Tryz.prog.initOrder = String.ofList (cs.map Char.ofNat) := by kernel_rfl
theorem head_list : Tryz.prog.initOrder.toList = cs.map Char.ofNat := by rw [head_is]; exact String.toList_ofList
def mainSum : List Nat := [101, 57, 48, 55, 97, 97, 100, 53, 55, 102, 52, 57, 48, 101, 48, 54, 97, 100, 52, 52, 57, 101, 52, 49, 50, 99, 57, 97, 50, 50, 55, 102, 52, 55, 97, 51, 48, 55, 57, 57, 57, 48, 99, 48, 56, 57, 98, 48, 102, 102, 57, 57, 48, 101, 50, 101, 101, 98, 100, 48, 98, 55, 51, 49]
def rest : List (List Nat) := [[97, 116], [116, 117, 109, 98, 108, 101, 114, 47, 116, 117, 109, 98, 108, 101, 114, 108, 97, 119, 49, 48, 46, 70, 108, 117, 115, 104, 82, 101, 99, 111, 114, 100, 115], [116, 117, 109, 98, 108, 101, 114, 47, 116, 117, 109, 98, 108, 101, 114, 108, 97, 119, 49, 48, 46, 70, 108, 117, 115, 104, 82, 105, 115, 101, 115], [116, 117, 109, 98, 108, 101, 114, 47, 116, 117, 109, 98, 108, 101, 114, 108, 97, 119, 49, 48, 46, 70, 108, 117, 115, 104, 65, 112, 97, 114, 116], [116, 117, 109, 98, 108, 101, 114, 47, 116, 117, 109, 98, 108, 101, 114, 108, 97, 119, 49, 48, 46, 70, 108, 117, 115, 104, 82, 97, 116, 101, 115], [116, 117, 109, 98, 108, 101, 114, 47, 116, 117, 109, 98, 108, 101, 114, 108, 97, 119, 49, 48, 46, 70, 108, 117, 115, 104, 66, 105, 110, 115], [116, 117, 109, 98, 108, 101, 114, 47, 116, 117, 109, 98, 108, 101, 114, 108, 97, 119, 49, 48, 46, 70, 108, 117, 115, 104, 78, 111, 110, 101], [116, 117, 109, 98, 108, 101, 114, 47, 116, 117, 109, 98, 108, 101, 114, 108, 97, 119, 49, 48, 46, 70, 108, 117, 115, 104, 83, 101, 116, 115]]
def sig (w : List Nat) : List Char := w.map Char.ofNat
set_option maxRecDepth 100000 in
theorem all_words : wordsSigns Tryz.prog.initOrder.toList = sig [104, 97, 114, 110, 101, 115, 115] :: sig mainSum :: sig [99, 117, 116] :: rest.map sig := by
  rw [head_list]; kernel_rfl
theorem words_is : behindMainWord (wordsSigns Tryz.prog.initOrder.toList) = sig [99, 117, 116] :: rest.map sig := by
  rw [all_words]; exact behind_of _ _ _ (by kernel_rfl) (by kernel_rfl)
theorem main_is : Tryz.prog.mainIs = some (true, "e907aad57f490e06ad449e412c9a227f47a3079990c089b0ff990e2eebd0b731".toList) :=
  (main_of _ _ _ _ all_words (by kernel_rfl) (by kernel_rfl)).trans (by kernel_rfl)
theorem may : Tryz.prog.mayEnter = true := may_of _ _ _ words_is (by kernel_rfl) (by kernel_rfl) (by kernel_rfl) (by kernel_rfl) (by kernel_rfl)
theorem lifts : Tryz.prog.headLifts = [] := lifts_of _ _ _ words_is (by kernel_rfl)
theorem lf : Tryz.prog.liftsFinal = false := final_of _ _ _ words_is lifts (by kernel_rfl)
theorem makeIs : Tryz.prog.make = some .cut := make_of _ _ _ words_is (by kernel_rfl) (by kernel_rfl)
end Go.Proofs.YtkocmbgpiidkdaaGreatDoor.Head
