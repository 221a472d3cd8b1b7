/- Wide.Of and wide.Small. -/
import Derived.Test.YtifhebempfjcmaaMWords
import Derived.Test.YtifhebempfjcmaaPxf32
import Derived.Test.YtifhebempfjcmaaPxf29
namespace Go.Proofs.Ytifhebempfjcmaa.MM
open Go.RowKit Go.Proofs.Ytifhebempfjcmaa.P Go.Proofs.YtifhebempfjcmaaW.PrintWords Go.Proofs.YtifhebempfjcmaaW.PrintMore Go.Proofs.Ytifhebempfjcmaa.Mine
set_option linter.unusedVariables false
set_option linter.unusedSimpArgs false

theorem WOf_is (n : Int) (hn : Hi n) : wide_Of.f n = some (n / 18446744073709551616, n % 18446744073709551616) := by
  unfold Hi at hn
  unfold wide_Of.f
  rw [wrap_u64]
  exact pair2 (by omega) rfl
def wsmall (v : Int) : Int × Bool := if -9223372036854775808 ≤ v ∧ v ≤ 9223372036854775807 then (v, true) else (0, false)
theorem WSmall_is (h l : Int) (hh : Hi h) (hl : U l) : wide_Small.f h l = some (wsmall (h * 18446744073709551616 + l)) := by
  unfold Hi U at *
  unfold wide_Small.f wsmall
  have hw : Hi (wrap64 l) := by unfold Hi wrap64; omega
  rw [WOf_is _ hw]
  simp only [Option.bind_some, Bool.or_eq_true, Bool.not_eq_true', beq_eq_false_iff_ne, ne_eq]
  unfold wrap64
  by_cases c : -9223372036854775808 ≤ h * 18446744073709551616 + l ∧ h * 18446744073709551616 + l ≤ 9223372036854775807
  · rw [if_pos c, if_neg (by omega)]
    exact pair2 (by omega) rfl
  · rw [if_neg c, if_pos (by omega)]
end Go.Proofs.Ytifhebempfjcmaa.MM
