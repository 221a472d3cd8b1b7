import Derived.Test.YtioahngbfdfcaaaGreatDoorKLf
set_option linter.unusedVariables false
set_option linter.unusedSimpArgs false
namespace Go.Proofs.YtioahngbfdfcaaaGreatDoor
open Go Go.Den Go.RowKit
variable {W0 : World}
/-! tumblerref04: Colon, Parts -/
theorem upto_app {b : UInt8} {t : List UInt8} : ∀ {a : List UInt8}, b ∉ a → upto b (a ++ b :: t) = a
  | [], _ => by simp [upto]
  | c :: a, h => by
    have h1 : c ≠ b := fun e => h (by simp [e])
    have := upto_app (t := t) (a := a) fun e => h (List.mem_cons_of_mem _ e)
    unfold upto at this ⊢
    simpa [h1] using this
end Go.Proofs.YtioahngbfdfcaaaGreatDoor
