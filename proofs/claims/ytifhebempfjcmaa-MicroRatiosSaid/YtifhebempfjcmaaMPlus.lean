/- The reference's sum of amounts, the amount of a wide number and of an int64. -/
import Derived.Test.YtifhebempfjcmaaMWords
import Derived.Test.YtifhebempfjcmaaPxf35
import Derived.Test.YtifhebempfjcmaaPxf17
import Derived.Test.YtifhebempfjcmaaPxf28
namespace Go.Proofs.Ytifhebempfjcmaa.MM
open Go.RowKit Go.Proofs.Ytifhebempfjcmaa.P Go.Proofs.YtifhebempfjcmaaW.PrintWords Go.Proofs.YtifhebempfjcmaaW.PrintMore Go.Proofs.Ytifhebempfjcmaa.Mine
set_option linter.unusedVariables false
set_option linter.unusedSimpArgs false

theorem Plus_is (S T : Int) (hS : 0 ≤ S) (hT : 0 ≤ T) :
    tumblerref02_Plus.f (S % 340282366920938463463374607431768211456 / 18446744073709551616) (S % 18446744073709551616) (decide (340282366920938463463374607431768211456 ≤ S))
      (T % 340282366920938463463374607431768211456 / 18446744073709551616) (T % 18446744073709551616) (decide (340282366920938463463374607431768211456 ≤ T)) =
    some ((S + T) % 340282366920938463463374607431768211456 / 18446744073709551616, (S + T) % 18446744073709551616, decide (340282366920938463463374607431768211456 ≤ S + T)) := by
  unfold tumblerref02_Plus.f
  simp only [wrap_u64, decide_eq_true_eq]
  repeat' split
  all_goals
    refine trip (by omega) (by omega) ?_
    first | exact (decide_eq_true (by omega)).symm | exact (decide_eq_false (by omega)).symm | exact decide_eq_decide.2 (by omega)
/-- An amount that fits. -/
theorem Plus_fits (h l h' l' : Int) (hh : U h) (hl : U l) (hh' : U h') (hl' : U l') (hs : (h * 18446744073709551616 + l) + (h' * 18446744073709551616 + l') < 340282366920938463463374607431768211456) :
    tumblerref02_Plus.f h l false h' l' false = some (((h * 18446744073709551616 + l) + (h' * 18446744073709551616 + l')) / 18446744073709551616, ((h * 18446744073709551616 + l) + (h' * 18446744073709551616 + l')) % 18446744073709551616, false) := by
  unfold U at *
  have e := Plus_is (h * 18446744073709551616 + l) (h' * 18446744073709551616 + l') (by omega) (by omega)
  rw [show (h * 18446744073709551616 + l) % 340282366920938463463374607431768211456 / 18446744073709551616 = h by omega, show (h * 18446744073709551616 + l) % 18446744073709551616 = l by omega,
    show (h' * 18446744073709551616 + l') % 340282366920938463463374607431768211456 / 18446744073709551616 = h' by omega, show (h' * 18446744073709551616 + l') % 18446744073709551616 = l' by omega,
    show decide (340282366920938463463374607431768211456 ≤ h * 18446744073709551616 + l) = false from decide_eq_false (by omega),
    show decide (340282366920938463463374607431768211456 ≤ h' * 18446744073709551616 + l') = false from decide_eq_false (by omega),
    show decide (340282366920938463463374607431768211456 ≤ h * 18446744073709551616 + l + (h' * 18446744073709551616 + l')) = false from decide_eq_false (by omega)] at e
  rw [e]
  simp only [Option.some.injEq, Prod.mk.injEq, and_true]
  omega
theorem Amount_is (h l : Int) (hh : Hi h) (hl : U l) :
    tumblerref02_Amount.f h l = some (mag (h * 18446744073709551616 + l) / 18446744073709551616, mag (h * 18446744073709551616 + l) % 18446744073709551616, false, decide (h * 18446744073709551616 + l < 0)) := by
  unfold Hi U at *
  unfold tumblerref02_Amount.f
  by_cases c : h ≥ 0
  · rw [if_pos c, mag_pos (by omega), wrap_u64]
    simp only [Option.some.injEq, Prod.mk.injEq, true_and]
    refine ⟨by omega, by omega, (decide_eq_false (by omega)).symm⟩
  · rw [if_neg c, mag_neg (by omega), wrap_u64, xor_all _ (by omega) (by omega), xor_all _ (by omega) (by omega), Plus_fits _ _ _ _ (by unfold U; omega) (by unfold U; omega) (by unfold U; omega) (by unfold U; omega) (by omega)]
    simp only [Option.bind_some, Option.some.injEq, Prod.mk.injEq, true_and]
    refine ⟨by omega, by omega, (decide_eq_true (by omega)).symm⟩
theorem Of_is (v : Int) (hv : Hi v) : tumblerref02_Of.f v = some (0, mag v, false, decide (v < 0)) := by
  unfold Hi at *
  unfold tumblerref02_Of.f
  simp only [wrap_u64, wrap64]
  by_cases c : v < 0
  · rw [if_pos c, mag_neg c]
    simp only [Option.some.injEq, Prod.mk.injEq, true_and]
    refine ⟨by omega, (decide_eq_true c).symm⟩
  · rw [if_neg c, mag_pos (by omega)]
    simp only [Option.some.injEq, Prod.mk.injEq, true_and]
    refine ⟨by omega, (decide_eq_false c).symm⟩
end Go.Proofs.Ytifhebempfjcmaa.MM
