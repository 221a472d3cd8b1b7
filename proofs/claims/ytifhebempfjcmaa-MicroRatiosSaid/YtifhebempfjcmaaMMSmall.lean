/- Micro.small. -/
import Derived.Test.YtifhebempfjcmaaMWOf
import Derived.Test.YtifhebempfjcmaaPxf38
namespace Go.Proofs.Ytifhebempfjcmaa.MM
open Go.RowKit Go.Proofs.Ytifhebempfjcmaa.P Go.Proofs.YtifhebempfjcmaaW.PrintWords Go.Proofs.YtifhebempfjcmaaW.PrintMore Go.Proofs.Ytifhebempfjcmaa.Mine
set_option linter.unusedVariables false
set_option linter.unusedSimpArgs false

theorem msmall_is (x : Int) (hx : -170141183460469231731687303715884105728 ≤ x ∧ x < 170141183460469231731687303715884105728) : micro_small.f (x / 18446744073709551616) (x % 18446744073709551616) 0 = some (fit x) := by
  unfold micro_small.f
  rw [WSmall_is _ _ (by unfold Hi; omega) (U_mod _), U_join]
  simp only [Option.bind_some, if_true]
  unfold wsmall
  by_cases c : -9223372036854775808 ≤ x ∧ x ≤ 9223372036854775807
  · rw [if_pos c, fit_in c]; rfl
  · rw [if_neg c, fit_out c]; rfl
end Go.Proofs.Ytifhebempfjcmaa.MM
