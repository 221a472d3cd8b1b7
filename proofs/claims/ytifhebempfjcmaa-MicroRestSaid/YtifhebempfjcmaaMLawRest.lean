/- MicroRest, pure. -/
import Derived.Test.YtifhebempfjcmaaMShare
import Derived.Test.YtifhebempfjcmaaMPlus
import Derived.Test.YtifhebempfjcmaaMTimes
import Derived.Test.YtifhebempfjcmaaPxf5
namespace Go.Proofs.Ytifhebempfjcmaa.MM
open Go.RowKit Go.Proofs.Ytifhebempfjcmaa.P Go.Proofs.YtifhebempfjcmaaW.PrintWords Go.Proofs.YtifhebempfjcmaaW.PrintMore Go.Proofs.Ytifhebempfjcmaa.Mine
set_option linter.unusedVariables false
set_option linter.unusedSimpArgs false

/-- What MicroRest's last part asks of the limbs of M and of B, M less B below n. -/
theorem rest_asks (k : Nat) (M B n : Int) (hB : 0 ≤ B ∧ B ≤ M) (hM : M < 340282366920938463463374607431768211456) (hn : 0 < n ∧ n < 9223372036854775808) (hr : M - B < n) (o o' : Bool) :
    tumblerlaw02_MicroRest.j0 (k + 2) n false (M / 18446744073709551616) (M % 18446744073709551616) o (B / 18446744073709551616) (B % 18446744073709551616) o' = some true := by
  simp only [tumblerlaw02_MicroRest.j0, Bool.false_eq_true, if_false]
  have last : tumblerlaw02_MicroRest.j1 (k + 1) n false (M / 18446744073709551616) (M % 18446744073709551616) o (B / 18446744073709551616) (B % 18446744073709551616) o' = some true := by
    simp only [tumblerlaw02_MicroRest.j1, Bool.false_eq_true, if_false, wrap_u64]
    by_cases c : M % 18446744073709551616 < B % 18446744073709551616
    · rw [if_pos c, if_pos (by omega), decide_eq_true (by omega)]
    · rw [if_neg c, if_pos (by omega), decide_eq_true (by omega)]
  rw [if_neg (by omega)]
  by_cases c : B / 18446744073709551616 = M / 18446744073709551616
  · rw [if_pos c, decide_eq_false (by omega)]; exact last
  · rw [if_neg c]; exact last
theorem MicroRest : tumblerlaw02_MicroRest.Pure := by
  intro h l n hh hl hn
  have hh : Hi h := wf_i64 hh
  have hl : U l := wf_u64 hl
  have hn : Hi n := wf_i64 hn
  by_cases c : n < 1
  · refine ⟨0, ?_⟩
    simp only [tumblerlaw02_MicroRest.f]
    rw [show micro_Share.f 0 h l n = some (0, 0, 1) by simp [micro_Share.f, c]]
    simp [c]
  · obtain ⟨K, h1⟩ := Share_is h l n hh hl hn (by omega)
    have lim := tdiv_pos_lim (h * 18446744073709551616 + l) n (by omega) (by unfold Hi U at *; omega)
    obtain ⟨mq, sq⟩ := tdiv_mag_pos (h * 18446744073709551616 + l) n (by omega)
    have m0 := mag_nonneg (h * 18446744073709551616 + l)
    have m1 := mag_lt h l hh hl
    have q0 : 0 ≤ mag (h * 18446744073709551616 + l) / n := Int.ediv_nonneg m0 (by omega)
    have q1 : mag (h * 18446744073709551616 + l) / n ≤ mag (h * 18446744073709551616 + l) := Int.ediv_le_self _ m0
    have b1 : mag (h * 18446744073709551616 + l) / n * n ≤ mag (h * 18446744073709551616 + l) := Int.ediv_mul_le _ (by omega)
    have b0 : 0 ≤ mag (h * 18446744073709551616 + l) / n * n := Int.mul_nonneg q0 (by omega)
    have b2 := Int.lt_ediv_add_one_mul_self (mag (h * 18446744073709551616 + l)) (show 0 < n by omega)
    rw [Int.add_mul, Int.one_mul] at b2
    obtain ⟨K', h2⟩ := Times_is _ _ n (U_div (mag (h * 18446744073709551616 + l) / n) q0 (by omega)) (U_mod (mag (h * 18446744073709551616 + l) / n)) (by unfold U; unfold Hi at hn; omega)
    refine ⟨max K K' + 2, ?_⟩
    have e1 := h1 (max K K' + 2) (by omega)
    have e2 := h2 (max K K' + 2) (by omega)
    simp only [U_join] at e1 e2
    rw [Int.emod_eq_of_lt b0 (by omega), decide_eq_false (by omega)] at e2
    generalize max K K' = k at *
    have ask := rest_asks k (mag (h * 18446744073709551616 + l)) (mag (h * 18446744073709551616 + l) / n * n) n ⟨b0, b1⟩ (by omega) (by unfold Hi at hn; omega) (by omega) false false
    have am := Amount_is (Int.tdiv (h * 18446744073709551616 + l) n / 18446744073709551616) (Int.tdiv (h * 18446744073709551616 + l) n % 18446744073709551616) (by unfold Hi; omega) (U_mod _)
    rw [U_join, mq] at am
    simp only [tumblerlaw02_MicroRest.f, e1, Option.bind_some]
    rw [if_neg c, Amount_is h l hh hl, am, wraps_u64 n (by omega) (by unfold Hi at hn; omega)]
    simp only [Option.bind_some, e2, if_true]
    by_cases z : Int.tdiv (h * 18446744073709551616 + l) n = 0
    · have qz : mag (h * 18446744073709551616 + l) / n = 0 := by rw [← mq, z]; rfl
      rw [qz] at ask ⊢
      rw [if_neg (by decide), if_neg (by decide)]
      exact ask
    · have s2 := sq z
      have se : (decide (Int.tdiv (h * 18446744073709551616 + l) n < 0) != decide (h * 18446744073709551616 + l < 0)) = false := by
        by_cases d : h * 18446744073709551616 + l < 0
        · rw [decide_eq_true d, decide_eq_true (s2.2 d)]; rfl
        · rw [decide_eq_false d, decide_eq_false (fun x => d (s2.1 x))]; rfl
      simp only [se, Bool.false_eq_true, if_false]
      repeat' split
      all_goals exact ask
end Go.Proofs.Ytifhebempfjcmaa.MM
