/- The reference's wide number of an amount with a sign. -/
import Derived.Test.YtifhebempfjcmaaMPlus
import Derived.Test.YtifhebempfjcmaaPxf34
namespace Go.Proofs.Ytifhebempfjcmaa.MM
open Go.RowKit Go.Proofs.Ytifhebempfjcmaa.P Go.Proofs.YtifhebempfjcmaaW.PrintWords Go.Proofs.YtifhebempfjcmaaW.PrintMore Go.Proofs.Ytifhebempfjcmaa.Mine
set_option linter.unusedVariables false
set_option linter.unusedSimpArgs false

/-- The wide number of an amount with a sign, if there is one. -/
def signedOf (M : Int) (b : Bool) : Int × Int × Bool :=
  if M > 170141183460469231731687303715884105728 ∨ M = 170141183460469231731687303715884105728 ∧ b = false then (0, 0, false) else ((if b = true then -M else M) / 18446744073709551616, (if b = true then -M else M) % 18446744073709551616, true)
theorem Signed_is (h l : Int) (b : Bool) (hh : U h) (hl : U l) : Ev (fun k => tumblerref02_Signed.f k h l false b) (signedOf (h * 18446744073709551616 + l) b) := ⟨1, fun k hk => by
  obtain ⟨k, rfl⟩ : ∃ m, k = m + 1 := ⟨k - 1, by omega⟩
  unfold U at *
  unfold tumblerref02_Signed.f signedOf
  simp only [tumblerref02_Signed.j0]
  rw [xor_all _ hh.1 hh.2, xor_all _ hl.1 hl.2]
  cases b <;> simp only [Bool.false_eq_true, if_false, if_true, Bool.not_true, Bool.not_false, reduceCtorEq, and_false, and_true, or_false, wrap64]
  · repeat' split
    all_goals first | rfl | (exfalso; omega) | exact trip (by omega) (by omega) rfl
  · by_cases c5 : h * 18446744073709551616 + l = 0
    · obtain rfl : h = 0 := by omega
      obtain rfl : l = 0 := by omega
      simp [tumblerref02_Plus.f, wrap_u64]
    · rw [Plus_fits _ _ _ _ (by unfold U; omega) (by unfold U; omega) (by unfold U; omega) (by unfold U; omega) (by omega)]
      simp only [Option.bind_some]
      repeat' split
      all_goals first | rfl | (exfalso; omega) | exact trip (by omega) (by omega) rfl⟩
end Go.Proofs.Ytifhebempfjcmaa.MM
