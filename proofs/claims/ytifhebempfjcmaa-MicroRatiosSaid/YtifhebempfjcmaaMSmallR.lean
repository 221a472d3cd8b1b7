/- The reference's int64 of an amount with a sign. -/
import Derived.Test.YtifhebempfjcmaaMWords
import Derived.Test.YtifhebempfjcmaaPxf30
namespace Go.Proofs.Ytifhebempfjcmaa.MM
open Go.RowKit Go.Proofs.Ytifhebempfjcmaa.P Go.Proofs.YtifhebempfjcmaaW.PrintWords Go.Proofs.YtifhebempfjcmaaW.PrintMore Go.Proofs.Ytifhebempfjcmaa.Mine
set_option linter.unusedVariables false
set_option linter.unusedSimpArgs false

/-- The number of an amount with a sign, if an int64 holds it. -/
def smallOf (M : Int) (b : Bool) : Int × Bool := if M > 9223372036854775808 ∨ M = 9223372036854775808 ∧ b = false then (0, false) else (if b = true then -M else M, true)
theorem Small_over (h l : Int) (b : Bool) : Ev (fun k => tumblerref02_Small.f k h l true b) (0, false) := ⟨1, fun k hk => by
  obtain ⟨k, rfl⟩ : ∃ m, k = m + 1 := ⟨k - 1, by omega⟩
  simp [tumblerref02_Small.f, tumblerref02_Small.j0]⟩
theorem Small_is (h l : Int) (b : Bool) (hh : U h) (hl : U l) : Ev (fun k => tumblerref02_Small.f k h l false b) (smallOf (h * 18446744073709551616 + l) b) := ⟨1, fun k hk => by
  obtain ⟨k, rfl⟩ : ∃ m, k = m + 1 := ⟨k - 1, by omega⟩
  unfold U at *
  unfold tumblerref02_Small.f smallOf
  simp only [tumblerref02_Small.j0, wrap64]
  cases b <;> simp only [Bool.false_eq_true, if_false, if_true, Bool.not_true, Bool.not_false, reduceCtorEq, and_false, and_true, or_false]
  all_goals
    repeat' split
    all_goals first | rfl | (exfalso; omega) | exact pair2 (by omega) rfl⟩
theorem small_fit (M : Int) (b : Bool) (hM : 0 ≤ M) : (if (smallOf M b).2 = true then some ((smallOf M b).1, (0 : Int)) else some (0, 10)) = some (fit (if b = true then -M else M)) := by
  unfold smallOf
  cases b <;> simp only [Bool.false_eq_true, if_false, if_true, reduceCtorEq, and_false, and_true, or_false]
  · by_cases c : M > 9223372036854775808 ∨ M = 9223372036854775808
    · rw [if_pos c, fit_out (by omega)]; rfl
    · rw [if_neg c, fit_in (by omega)]; rfl
  · by_cases c : M > 9223372036854775808
    · rw [if_pos c, fit_out (by omega)]; rfl
    · rw [if_neg c, fit_in (by omega)]; rfl
end Go.Proofs.Ytifhebempfjcmaa.MM
