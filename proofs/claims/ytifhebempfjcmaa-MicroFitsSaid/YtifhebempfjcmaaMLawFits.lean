/- MicroFits, pure: the program's Fits answers as the reference's. -/
import Derived.Test.YtifhebempfjcmaaMWOf
import Derived.Test.YtifhebempfjcmaaMPlus
import Derived.Test.YtifhebempfjcmaaMSmallR
import Derived.Test.YtifhebempfjcmaaPxf3
namespace Go.Proofs.Ytifhebempfjcmaa.MM
open Go.RowKit Go.Proofs.Ytifhebempfjcmaa.P Go.Proofs.YtifhebempfjcmaaW.PrintWords Go.Proofs.YtifhebempfjcmaaW.PrintMore Go.Proofs.Ytifhebempfjcmaa.Mine
set_option linter.unusedVariables false
set_option linter.unusedSimpArgs false

theorem MicroFits : tumblerlaw02_MicroFits.Pure := by
  intro h l hh hl
  have hh : Hi h := wf_i64 hh
  have hl : U l := wf_u64 hl
  have m := mag_lt h l hh hl
  have n := mag_nonneg (h * 18446744073709551616 + l)
  obtain ⟨K, hK⟩ := Small_is (mag (h * 18446744073709551616 + l) / 18446744073709551616) (mag (h * 18446744073709551616 + l) % 18446744073709551616) (decide (h * 18446744073709551616 + l < 0)) (U_div _ n (by omega)) (U_mod _)
  have hKk := hK K (Nat.le_refl _)
  simp only [U_join] at hKk
  refine ⟨K, ?_⟩
  unfold tumblerlaw02_MicroFits.f micro_Fits.f tumblerref02_Fits.f
  rw [WSmall_is h l hh hl, WSmall_is 0 5 (by unfold Hi; decide) (by unfold U; decide), Amount_is h l hh hl]
  simp only [Option.bind_some, hKk]
  have e : smallOf (mag (h * 18446744073709551616 + l)) (decide (h * 18446744073709551616 + l < 0)) = wsmall (h * 18446744073709551616 + l) := by
    unfold smallOf wsmall mag
    generalize h * 18446744073709551616 + l = v
    by_cases c : v < 0 <;> simp only [c, if_true, if_false, decide_true, decide_false, reduceCtorEq, and_false, or_false, and_true, Bool.false_eq_true]
    · by_cases d : -v > 9223372036854775808
      · rw [if_pos d, if_neg (by omega)]
      · rw [if_neg d, if_pos (by omega), Int.neg_neg]
    · by_cases d : v > 9223372036854775808 ∨ v = 9223372036854775808
      · rw [if_pos d, if_neg (by omega)]
      · rw [if_neg d, if_pos (by omega)]
  rw [e]
  simp [wsmall]
end Go.Proofs.Ytifhebempfjcmaa.MM
