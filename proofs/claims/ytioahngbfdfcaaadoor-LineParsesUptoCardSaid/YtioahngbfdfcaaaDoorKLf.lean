import Derived.Test.YtioahngbfdfcaaaDoorKLe
set_option linter.unusedVariables false
set_option linter.unusedSimpArgs false
namespace Go.Proofs.YtioahngbfdfcaaaDoor
open Go Go.Den Go.RowKit
variable {W0 : World}
/-! tumblerlaw04: awake -/
abbrev l1 : List UInt8 := [97, 46, 98, 58, 49, 46, 53, 124, 99, 124, 64, 48, 46, 49]
theorem awake_is : parseL l1 = (⟨[97, 46, 98], 1, 1500000, false, [], 100000, false, 0⟩, 0, 0) := by rfl
theorem awake (hW : WF W0) : PureF (C W0) I.tumblerlaw04_awake [] (.bool true) := by
  have p := line_Parse hW l1 (by decide)
  rw [awake_is] at p
  refine PureF.E (CallP.of_body (C_ok W0) B.tumblerlaw04_awake rfl rfl rfl ?_)
  repeat' first
    | refine (p).call ?_
    | (apply Here.norm; (first | dsimp only [Env.putR, argEnv, pure1, newPtr, applyE, hset, List.length_cons, List.length_nil, List.length_append, List.set, List.cons_append, List.nil_append] | rfl); (first | dsimp only [Env.putR, argEnv, pure1, newPtr, applyE, hset, List.length_cons, List.length_nil, List.length_append, List.set, List.cons_append, List.nil_append] | rfl))
    | refine ⟨_, _, _, _, _, rfl, rfl, rfl, Fits.mk (by first | exact Nat.le_of_ble_eq_true rfl | (dsimp only; omega)), rfl, ?_⟩
    | refine ⟨_, _, _, _, _, rfl, Fits.mk (by first | exact Nat.le_of_ble_eq_true rfl | (dsimp only; omega)), _, rfl, ?_⟩
    | refine ⟨_, rfl, ?_⟩
    | fail
  rfl
end Go.Proofs.YtioahngbfdfcaaaDoor
