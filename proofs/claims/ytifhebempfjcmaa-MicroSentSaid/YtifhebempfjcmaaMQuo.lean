/- Wide.Quo. -/
import Derived.Test.YtifhebempfjcmaaMDivided
import Derived.Test.YtifhebempfjcmaaPxf31d
namespace Go.Proofs.Ytifhebempfjcmaa.MM
open Go.RowKit Go.Proofs.Ytifhebempfjcmaa.P Go.Proofs.YtifhebempfjcmaaW.PrintWords Go.Proofs.YtifhebempfjcmaaW.PrintMore Go.Proofs.Ytifhebempfjcmaa.Mine
set_option linter.unusedVariables false
set_option linter.unusedSimpArgs false

/-- The quotient and what is left of two wide numbers, and 0; or zeros and 10. -/
def wquo (v w : Int) : Int × Int × Int × Int × Int :=
  if Int.tdiv v w < 170141183460469231731687303715884105728 then (Int.tdiv v w / 18446744073709551616, Int.tdiv v w % 18446744073709551616, Int.tmod v w / 18446744073709551616, Int.tmod v w % 18446744073709551616, 0) else (0, 0, 0, 0, 10)
theorem Quo_is (h l h' l' : Int) (hh : Hi h) (hl : U l) (hh' : Hi h') (hl' : U l') (h0 : h' * 18446744073709551616 + l' ≠ 0) :
    Ev (fun k => wide_Quo.f k h l h' l') (wquo (h * 18446744073709551616 + l) (h' * 18446744073709551616 + l')) := by
  obtain ⟨e1, e2⟩ := tdiv_mag (h * 18446744073709551616 + l) (h' * 18446744073709551616 + l') h0
  have m1 := mag_lt h l hh hl
  have m2 := mag_lt h' l' hh' hl'
  have n1 := mag_nonneg (h * 18446744073709551616 + l)
  have n2 : 0 < mag (h' * 18446744073709551616 + l') := by unfold mag; split <;> omega
  obtain ⟨K, hK⟩ := divided_is (mag (h * 18446744073709551616 + l)) (mag (h' * 18446744073709551616 + l')) n1 (by omega) n2 (by omega)
  refine ⟨K + 1, fun k hk => ?_⟩
  have hKk := hK k (by omega)
  obtain ⟨k, rfl⟩ : ∃ j, k = j + 1 := ⟨k - 1, by omega⟩
  clear hK
  unfold wquo
  rw [e1, e2, ← Hi_neg h l hl, ← Hi_neg h' l' hl']
  simp only [wide_Quo.f]
  have hz : ¬ (h' == 0 && (l' == 0)) = true := by
    simp only [Bool.and_eq_true, beq_iff_eq]; omega
  rw [if_neg hz, amount_is h l hh hl, amount_is h' l' hh' hl']
  simp only [Option.bind_some]
  clear e1 e2 hz h0
  generalize mag (h * 18446744073709551616 + l) = M at *
  generalize mag (h' * 18446744073709551616 + l') = N at *
  simp only [hKk, Option.bind_some]
  have q0 : 0 ≤ M / N := Int.ediv_nonneg n1 (Int.le_of_lt n2)
  have q1 : M / N ≤ M := Int.ediv_le_self _ n1
  have r0 : 0 ≤ M % N := Int.emod_nonneg _ (by omega)
  have r1 : M % N < N := Int.emod_lt_of_pos _ n2
  rw [signed_at k _ _ _ (U_mod _) (U_div _ q0 (by omega)), U_join, wsigned_enc _ _ q0]
  simp only [Option.bind_some]
  generalize (decide (h < 0) != decide (h' < 0)) = s
  generalize decide (h < 0) = t
  generalize M / N = q at *
  rw [signed_at k _ _ _ (U_mod _) (U_div _ r0 (by omega)), U_join, wsigned_enc _ _ r0]
  simp only [Option.bind_some]
  generalize M % N = r at *
  by_cases c : (if s = true then -q else q) < 170141183460469231731687303715884105728
  · rw [wenc_in (by cases s <;> simp only [Bool.false_eq_true, if_false, if_true] at * <;> omega), if_pos c, if_pos rfl, wenc_in (by cases t <;> simp only [Bool.false_eq_true, if_false, if_true] <;> omega)]
  · rw [wenc_out (by omega), if_neg c, if_neg (by decide)]
end Go.Proofs.Ytifhebempfjcmaa.MM
