/- The reference's Ratio. -/
import Derived.Test.YtifhebempfjcmaaMTimes
import Derived.Test.YtifhebempfjcmaaMBy
import Derived.Test.YtifhebempfjcmaaMSmallR
import Derived.Test.YtifhebempfjcmaaPxf25
namespace Go.Proofs.Ytifhebempfjcmaa.MM
open Go.RowKit Go.Proofs.Ytifhebempfjcmaa.P Go.Proofs.YtifhebempfjcmaaW.PrintWords Go.Proofs.YtifhebempfjcmaaW.PrintMore Go.Proofs.Ytifhebempfjcmaa.Mine
set_option linter.unusedVariables false
set_option linter.unusedSimpArgs false

theorem up63 (X : Int) (h0 : 0 ≤ X) (h1 : X ≤ 9223372036854775808000000) : IntKind.u64.wrap (IntKind.u64.wrap (X / 18446744073709551616 * 2) + X % 18446744073709551616 / 9223372036854775808) = X / 9223372036854775808 := by
  rw [wrap_u64, wrap_u64]; omega
theorem RatioR_is (a b : Int) (ha : Hi a) (hb : Hi b) (h0 : b ≠ 0) : Ev (fun k => tumblerref02_Ratio.f k a b) (fit (Int.tdiv (a * 1000000) b)) := by
  have ma := mag_Hi ha
  have mb := mag_Hi hb
  have mb0 : 0 < mag b := by unfold mag; split <;> omega
  have hlim : 0 ≤ mag a * 1000000 ∧ mag a * 1000000 ≤ 9223372036854775808000000 := by omega
  obtain ⟨K, hK⟩ := Times_small a 1000000 ha (by unfold U; decide) (by omega)
  have q0 : 0 ≤ mag a * 1000000 / mag b := Int.ediv_nonneg (by omega) (by omega)
  have q1 : mag a * 1000000 / mag b ≤ mag a * 1000000 := Int.ediv_le_self _ (by omega)
  obtain ⟨K2, hK2⟩ := Small_is _ _ (decide (a < 0) != decide (b < 0)) (U_div (mag a * 1000000 / mag b) q0 (by omega)) (U_mod (mag a * 1000000 / mag b))
  have t := (tdiv_mag (a * 1000000) b h0).1
  rw [mag_mul, show mag 1000000 = 1000000 by decide, show decide (a * 1000000 < 0) = decide (a < 0) from decide_eq_decide.2 (by omega)] at t
  have fin : (if (smallOf (mag a * 1000000 / mag b) (decide (a < 0) != decide (b < 0))).2 = true then some ((smallOf (mag a * 1000000 / mag b) (decide (a < 0) != decide (b < 0))).1, (0 : Int)) else some (0, 10)) = some (fit (Int.tdiv (a * 1000000) b)) := by
    rw [small_fit _ _ q0, t]
  by_cases c : mag b = 9223372036854775808
  · refine ⟨max K K2 + 1, fun k hk => ?_⟩
    obtain ⟨k, rfl⟩ : ∃ j, k = j + 1 := ⟨k - 1, by omega⟩
    have e1 := hK (k + 1) (by omega)
    have e3 := hK2 k (by omega)
    simp only [U_join] at e1 e3
    simp only [tumblerref02_Ratio.f, tumblerref02_Ratio.j0]
    rw [if_neg h0, Of_is a ha, Of_is b hb]
    simp only [Option.bind_some, e1, c, if_true]
    rw [c] at e3 fin q0 q1
    have ez : IntKind.u64.wrap (IntKind.u64.wrap (mag a * 1000000 / 18446744073709551616 * 2) + mag a * 1000000 % 18446744073709551616 / 9223372036854775808) = mag a * 1000000 / 9223372036854775808 := up63 _ hlim.1 hlim.2
    rw [ez]
    rw [show mag a * 1000000 / 9223372036854775808 / 18446744073709551616 = 0 by omega, show mag a * 1000000 / 9223372036854775808 % 18446744073709551616 = mag a * 1000000 / 9223372036854775808 by omega] at e3
    rw [e3]
    exact fin
  · obtain ⟨K', hK'⟩ := By_is _ _ (mag b) (U_div (mag a * 1000000) (by omega) (by omega)) (U_mod (mag a * 1000000)) mb0 (by omega)
    refine ⟨max K (max K' K2) + 1, fun k hk => ?_⟩
    obtain ⟨k, rfl⟩ : ∃ j, k = j + 1 := ⟨k - 1, by omega⟩
    have e1 := hK (k + 1) (by omega)
    have e2 := hK' (k + 1) (by omega)
    have e3 := hK2 k (by omega)
    simp only [U_join] at e1 e2 e3
    simp only [tumblerref02_Ratio.f, tumblerref02_Ratio.j0]
    rw [if_neg h0, Of_is a ha, Of_is b hb]
    simp only [Option.bind_some, e1]
    rw [if_neg c]
    simp only [Option.bind_some, e2, e3]
    exact fin
end Go.Proofs.Ytifhebempfjcmaa.MM
