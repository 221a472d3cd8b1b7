/- The words that the program's head bears, told as a list of signs: what the rows' closed facts read of it. -/
import Derived.Test.YtioahngbfdfcaaaDoorRows
import Derived.JoinedOf
import Derived.JoinedCond
import Derived.KernelRfl
namespace Go.Proofs.YtioahngbfdfcaaaDoor.Head
open Go
theorem may_of (P : Program) (c : List Char) (rest : List (List Char)) (h : behindMainWord (wordsSigns P.initOrder.toList) = c :: rest) (h1 : ((stripLifts liftWords (c :: rest)).2.head? == some "cut".toList) = true)
    (h2 : P.laysLater = false) (h3 : P.bearsReflect = false) (h4 : (stripLifts liftWords (c :: rest)).1 = []) (h5 : P.doorFits [] = true) : P.mayEnter = true := by
  unfold Program.mayEnter; rw [h]
  simp only [h1, h2, h3, h4, h5, Bool.not_false, Bool.or_true, Bool.and_true, List.contains_nil]
theorem make_of (P : Program) (c : List Char) (rest : List (List Char)) (h : behindMainWord (wordsSigns P.initOrder.toList) = c :: rest) (h1 : (c == "gc".toList || c == "spec".toList) = false) (h2 : (c == "cut".toList) = true) : P.make = some .cut := by
  unfold Program.make; rw [h]
  simp only [h1, h2, Bool.true_or, if_true, Bool.false_eq_true, if_false]
theorem lifts_of (P : Program) (c : List Char) (rest : List (List Char)) (h : behindMainWord (wordsSigns P.initOrder.toList) = c :: rest) (h4 : (stripLifts liftWords (c :: rest)).1 = []) : P.headLifts = [] := by
  unfold Program.headLifts; rw [h]
  simp only [h4, ite_self]
theorem final_of (P : Program) (c : List Char) (rest : List (List Char)) (h : behindMainWord (wordsSigns P.initOrder.toList) = c :: rest) (hl : P.headLifts = []) (h1 : (c == "carried".toList) = false) : P.liftsFinal = false := by
  unfold Program.liftsFinal; rw [h, hl]
  have h2 : ((c :: rest).head? == some "carried".toList) = false := h1
  simp only [h2, Bool.false_and, Bool.false_or, List.contains_nil]
theorem main_of (P : Program) (h s : List Char) (rest : List (List Char)) (hw : wordsSigns P.initOrder.toList = h :: s :: rest) (h1 : isSumSigns s = true) (h2 : (h == "harness".toList) = true) : P.mainIs = some (true, s) := by
  unfold Program.mainIs; rw [hw]
  simp only [h1, h2, Bool.not_true, Bool.false_eq_true, if_false, if_true]
theorem behind_of (h s : List Char) (rest : List (List Char)) (h1 : isSumSigns s = true) (h2 : (h == "harness".toList) = true) : behindMainWord (h :: s :: rest) = rest := by
  unfold behindMainWord
  simp only [h1, h2, Bool.true_or, Bool.and_self, if_true]
def cs : List Nat := [104, 97, 114, 110, 101, 115, 115, 32, 101, 55, 51, 48, 97, 98, 99, 100, 55, 57, 100, 56, 98, 51, 97, 98, 100, 55, 102, 99, 54, 51, 101, 50, 56, 56, 52, 98, 55, 101, 54, 57, 98, 55, 54, 55, 101, 53, 53, 101, 99, 100, 102, 97, 53, 98, 51, 51, 99, 52, 54, 57, 52, 53, 53, 98, 53, 49, 99, 49, 57, 97, 102, 99, 32, 99, 117, 116, 32, 97, 116, 32, 116, 117, 109, 98, 108, 101, 114, 47, 116, 117, 109, 98, 108, 101, 114, 108, 97, 119, 48, 52, 46, 76, 105, 110, 101, 80, 97, 114, 115, 101, 115, 32, 116, 117, 109, 98, 108, 101, 114, 47, 116, 117, 109, 98, 108, 101, 114, 108, 97, 119, 48, 52, 46, 76, 105, 110, 101, 80, 108, 97, 99, 101, 115, 32, 116, 117, 109, 98, 108, 101, 114, 47, 116, 117, 109, 98, 108, 101, 114, 108, 97, 119, 48, 52, 46, 76, 105, 110, 101, 80, 97, 114, 116, 115, 32, 116, 117, 109, 98, 108, 101, 114, 47, 116, 117, 109, 98, 108, 101, 114, 108, 97, 119, 48, 52, 46, 76, 105, 110, 101, 79, 114, 100, 101, 114, 32, 116, 117, 109, 98, 108, 101, 114, 47, 116, 117, 109, 98, 108, 101, 114, 108, 97, 119, 48, 52, 46, 76, 105, 110, 101, 80, 114, 105, 110, 116, 115, 32, 116, 117, 109, 98, 108, 101, 114, 47, 116, 117, 109, 98, 108, 101, 114, 108, 97, 119, 48, 52, 46, 76, 105, 110, 101, 68, 101, 108, 116, 97, 115, 32, 116, 117, 109, 98, 108, 101, 114, 47, 116, 117, 109, 98, 108, 101, 114, 108, 97, 119, 48, 52, 46, 76, 105, 110, 101, 82, 105, 103, 104, 116]
set_option maxRecDepth 100000 in
theorem head_is : Tryd.prog.initOrder = String.ofList (cs.map Char.ofNat) := by kernel_rfl
theorem head_list : Tryd.prog.initOrder.toList = cs.map Char.ofNat := by rw [head_is]; exact String.toList_ofList
def mainSum : List Nat := [101, 55, 51, 48, 97, 98, 99, 100, 55, 57, 100, 56, 98, 51, 97, 98, 100, 55, 102, 99, 54, 51, 101, 50, 56, 56, 52, 98, 55, 101, 54, 57, 98, 55, 54, 55, 101, 53, 53, 101, 99, 100, 102, 97, 53, 98, 51, 51, 99, 52, 54, 57, 52, 53, 53, 98, 53, 49, 99, 49, 57, 97, 102, 99]
def rest : List (List Nat) := [[97, 116], [116, 117, 109, 98, 108, 101, 114, 47, 116, 117, 109, 98, 108, 101, 114, 108, 97, 119, 48, 52, 46, 76, 105, 110, 101, 80, 97, 114, 115, 101, 115], [116, 117, 109, 98, 108, 101, 114, 47, 116, 117, 109, 98, 108, 101, 114, 108, 97, 119, 48, 52, 46, 76, 105, 110, 101, 80, 108, 97, 99, 101, 115], [116, 117, 109, 98, 108, 101, 114, 47, 116, 117, 109, 98, 108, 101, 114, 108, 97, 119, 48, 52, 46, 76, 105, 110, 101, 80, 97, 114, 116, 115], [116, 117, 109, 98, 108, 101, 114, 47, 116, 117, 109, 98, 108, 101, 114, 108, 97, 119, 48, 52, 46, 76, 105, 110, 101, 79, 114, 100, 101, 114], [116, 117, 109, 98, 108, 101, 114, 47, 116, 117, 109, 98, 108, 101, 114, 108, 97, 119, 48, 52, 46, 76, 105, 110, 101, 80, 114, 105, 110, 116, 115], [116, 117, 109, 98, 108, 101, 114, 47, 116, 117, 109, 98, 108, 101, 114, 108, 97, 119, 48, 52, 46, 76, 105, 110, 101, 68, 101, 108, 116, 97, 115], [116, 117, 109, 98, 108, 101, 114, 47, 116, 117, 109, 98, 108, 101, 114, 108, 97, 119, 48, 52, 46, 76, 105, 110, 101, 82, 105, 103, 104, 116]]
def sig (w : List Nat) : List Char := w.map Char.ofNat
set_option maxRecDepth 100000 in
theorem all_words : wordsSigns Tryd.prog.initOrder.toList = sig [104, 97, 114, 110, 101, 115, 115] :: sig mainSum :: sig [99, 117, 116] :: rest.map sig := by
  rw [head_list]; kernel_rfl
theorem words_is : behindMainWord (wordsSigns Tryd.prog.initOrder.toList) = sig [99, 117, 116] :: rest.map sig := by
  rw [all_words]; exact behind_of _ _ _ (by kernel_rfl) (by kernel_rfl)
theorem main_is : Tryd.prog.mainIs = some (true, "e730abcd79d8b3abd7fc63e2884b7e69b767e55ecdfa5b33c469455b51c19afc".toList) :=
  (main_of _ _ _ _ all_words (by kernel_rfl) (by kernel_rfl)).trans (by kernel_rfl)
theorem may : Tryd.prog.mayEnter = true := may_of _ _ _ words_is (by kernel_rfl) (by kernel_rfl) (by kernel_rfl) (by kernel_rfl) (by kernel_rfl)
theorem lifts : Tryd.prog.headLifts = [] := lifts_of _ _ _ words_is (by kernel_rfl)
theorem lf : Tryd.prog.liftsFinal = false := final_of _ _ _ words_is lifts (by kernel_rfl)
theorem makeIs : Tryd.prog.make = some .cut := make_of _ _ _ words_is (by kernel_rfl) (by kernel_rfl)
end Go.Proofs.YtioahngbfdfcaaaDoor.Head
