/- The reference's Share. -/
import Derived.Test.YtifhebempfjcmaaMBy
import Derived.Test.YtifhebempfjcmaaMSignedR
import Derived.Test.YtifhebempfjcmaaPxf16
namespace Go.Proofs.Ytifhebempfjcmaa.MM
open Go.RowKit Go.Proofs.Ytifhebempfjcmaa.P Go.Proofs.YtifhebempfjcmaaW.PrintWords Go.Proofs.YtifhebempfjcmaaW.PrintMore Go.Proofs.Ytifhebempfjcmaa.Mine
set_option linter.unusedVariables false
set_option linter.unusedSimpArgs false

theorem ShareR_is (h l n : Int) (hh : Hi h) (hl : U l) (hn : Hi n) (h1 : 1 ≤ n) :
    Ev (fun k => tumblerref02_Share.f k h l n) (Int.tdiv (h * 18446744073709551616 + l) n / 18446744073709551616, Int.tdiv (h * 18446744073709551616 + l) n % 18446744073709551616, 0) := by
  have m := mag_lt h l hh hl
  have m0 := mag_nonneg (h * 18446744073709551616 + l)
  have lim := tdiv_pos_lim (h * 18446744073709551616 + l) n (by omega) (by unfold Hi U at *; omega)
  have t := (tdiv_mag (h * 18446744073709551616 + l) n (by omega)).1
  have e : mag n = n := mag_pos (by omega)
  rw [e, show decide (n < 0) = false from decide_eq_false (by omega), Bool.bne_false] at t
  obtain ⟨K, hK⟩ := By_is _ _ n (U_div (mag (h * 18446744073709551616 + l)) m0 (by omega)) (U_mod (mag (h * 18446744073709551616 + l))) (by omega) (by unfold Hi at hn; omega)
  have q0 : 0 ≤ mag (h * 18446744073709551616 + l) / n := Int.ediv_nonneg m0 (by omega)
  have q1 : mag (h * 18446744073709551616 + l) / n ≤ mag (h * 18446744073709551616 + l) := Int.ediv_le_self _ m0
  obtain ⟨K', hK'⟩ := Signed_is _ _ (decide (h * 18446744073709551616 + l < 0)) (U_div (mag (h * 18446744073709551616 + l) / n) q0 (by omega)) (U_mod (mag (h * 18446744073709551616 + l) / n))
  refine ⟨max K K', fun k hk => ?_⟩
  have e1 := hK k (by omega)
  have e2 := hK' k (by omega)
  simp only [U_join] at e1 e2
  simp only [tumblerref02_Share.f]
  rw [if_neg (by omega), Amount_is h l hh hl, wraps_u64 n (by omega) (by unfold Hi at hn; omega)]
  simp only [Option.bind_some, e1, e2]
  by_cases c : n = 1
  · rw [if_pos c, c, Int.tdiv_one]
    unfold U at hl
    exact trip (by omega) (by omega) rfl
  · rw [if_neg c]
    unfold signedOf
    rw [← t, if_neg (by
      intro d
      by_cases g : h * 18446744073709551616 + l < 0
      · simp only [g, decide_true, reduceCtorEq, and_false, or_false] at d; omega
      · simp only [g, decide_false, and_true, if_false, Bool.false_eq_true] at d t
        omega)]
end Go.Proofs.Ytifhebempfjcmaa.MM
