/- The reference's division of an amount. -/
import Derived.Test.YtifhebempfjcmaaMWords
import Derived.Test.YtifhebempfjcmaaPxf33
namespace Go.Proofs.Ytifhebempfjcmaa.MM
open Go.RowKit Go.Proofs.Ytifhebempfjcmaa.P Go.Proofs.YtifhebempfjcmaaW.PrintWords Go.Proofs.YtifhebempfjcmaaW.PrintMore Go.Proofs.Ytifhebempfjcmaa.Mine
set_option linter.unusedVariables false
set_option linter.unusedSimpArgs false

/-- By, from the round of bit m - 1 on. -/
theorem By_from (A n : Int) (hA : 0 ≤ A) (hA' : A < 340282366920938463463374607431768211456) (hn : 0 < n) (hn' : n < 9223372036854775808) (m : Nat) : m ≤ 128 →
    Ev (fun k => tumblerref02_By.l0 k n (A / 2 ^ m % n) ((m : Int) - 1) (A / 18446744073709551616) (A % 18446744073709551616) false
      (A / 2 ^ m / n * 2 ^ m / 18446744073709551616) (A / 2 ^ m / n * 2 ^ m % 18446744073709551616) false)
      (A / n / 18446744073709551616, A / n % 18446744073709551616, false, A % n) := by
  induction m with
  | zero =>
    intro _
    refine ⟨1, fun k hk => ?_⟩
    obtain ⟨k, rfl⟩ : ∃ j, k = j + 1 := ⟨k - 1, by omega⟩
    simp only [tumblerref02_By.l0]
    rw [if_neg (by decide), Int.pow_zero, Int.ediv_one, Int.mul_one]
  | succ m ih =>
    intro hm
    obtain ⟨K, hK⟩ := ih (by omega)
    refine ⟨K + 2, fun k hk => ?_⟩
    obtain ⟨k, rfl⟩ : ∃ j, k = j + 2 := ⟨k - 2, by omega⟩
    have hi : (((m + 1 : Nat) : Int) - 1) = m := by omega
    have hr0 := Int.emod_nonneg (A / 2 ^ (m + 1)) (show n ≠ 0 by omega)
    have hr1 := Int.emod_lt_of_pos (A / 2 ^ (m + 1)) hn
    obtain ⟨q0, q1, qd⟩ := quo_room A n m hA hA' hn
    obtain ⟨nl, ng⟩ := quo_next A n m hA hn _ rfl
    have hnext : wrap64 ((m : Int) - 1) = (m : Int) - 1 := by unfold wrap64; omega
    have ht : IntKind.u64.wrap (Int.tmod (m : Int) 64) = ((m % 64 : Nat) : Int) := by
      rw [Int.tmod_eq_emod_of_nonneg (by omega)]
      exact wraps_u64 _ (by omega) (by omega)
    have h0 : 0 ≤ A / 2 ^ m := Int.ediv_nonneg hA (Int.le_of_lt (two_pos _))
    have hb0 : A / 2 ^ m % 2 = 0 ∨ A / 2 ^ m % 2 = 1 := by omega
    have step : ∀ b, b = A / 2 ^ m % 2 → tumblerref02_By.j2 (k + 1) n (A / 2 ^ (m + 1) % n) (m : Int) b (A / 18446744073709551616) (A % 18446744073709551616) false
        (A / 2 ^ (m + 1) / n * 2 ^ (m + 1) / 18446744073709551616) (A / 2 ^ (m + 1) / n * 2 ^ (m + 1) % 18446744073709551616) false = some (A / n / 18446744073709551616, A / n % 18446744073709551616, false, A % n) := by
      intro b hb
      rw [← hb] at nl ng hb0
      simp only [tumblerref02_By.j2]
      generalize A / 2 ^ (m + 1) % n = r at *
      have e1 : IntKind.u64.wrap (IntKind.u64.wrap (r * 2) + b) = 2 * r + b := by rw [wrap_u64, wrap_u64]; omega
      rw [e1]
      by_cases c : n ≤ 2 * r + b
      · obtain ⟨e2, e3⟩ := ng c
        rw [if_pos c, ht, wrap_u64, show (2 * r + b - n) % 18446744073709551616 = A / 2 ^ m % n by omega, hnext, shl_one _ (by omega) (by omega), Int.toNat_natCast]
        by_cases c6 : 64 ≤ m
        · obtain ⟨s1, s2⟩ := set_high _ m c6 (by omega) q0 q1 qd
          rw [if_pos (by omega), if_pos (by omega), show m % 64 = m - 64 by omega, s1, s2, ← e3]
          exact hK k (by omega)
        · obtain ⟨s1, s2⟩ := set_low _ m (by omega) q0 qd
          rw [if_neg (by omega), if_pos (by omega), show m % 64 = m by omega, s1, s2, ← e3]
          exact hK k (by omega)
      · obtain ⟨e2, e3⟩ := nl (by omega)
        rw [if_neg c, ← e2, ← e3, hnext]
        exact hK k (by omega)
    show tumblerref02_By.l0 (k + 2) _ _ _ _ _ _ _ _ _ = _
    simp only [tumblerref02_By.l0]
    rw [hi, if_pos (by omega), ht, if_pos (by omega)]
    by_cases c6 : 64 ≤ m
    · rw [if_pos (by omega)]
      apply step
      have hz : 0 ≤ A / 18446744073709551616 / 2 ^ (m % 64) := Int.ediv_nonneg (by omega) (Int.le_of_lt (two_pos _))
      have hz' : A / 18446744073709551616 / 2 ^ (m % 64) ≤ A / 18446744073709551616 := Int.ediv_le_self _ (by omega)
      rw [shr_at _ _ (by omega) (by omega), Int.toNat_natCast, and_one _ hz (by omega), show m % 64 = m - 64 by omega, high_bit A m c6]
    · rw [if_neg (by omega)]
      apply step
      have hz : 0 ≤ A % 18446744073709551616 / 2 ^ (m % 64) := Int.ediv_nonneg (by omega) (Int.le_of_lt (two_pos _))
      have hz' : A % 18446744073709551616 / 2 ^ (m % 64) ≤ A % 18446744073709551616 := Int.ediv_le_self _ (by omega)
      rw [shr_at _ _ (by omega) (by omega), Int.toNat_natCast, and_one _ hz (by omega), show m % 64 = m by omega, low_bit A m (by omega)]
theorem By_is (h l n : Int) (hh : U h) (hl : U l) (hn : 0 < n) (hn' : n < 9223372036854775808) :
    Ev (fun k => tumblerref02_By.f k h l false n)
      ((h * 18446744073709551616 + l) / n / 18446744073709551616, (h * 18446744073709551616 + l) / n % 18446744073709551616, false, (h * 18446744073709551616 + l) % n) := by
  unfold U at hh hl
  obtain ⟨K, hK⟩ := By_from (h * 18446744073709551616 + l) n (by omega) (by omega) hn hn' 128 (by omega)
  refine ⟨K + 1, fun k hk => ?_⟩
  obtain ⟨k, rfl⟩ : ∃ j, k = j + 1 := ⟨k - 1, by omega⟩
  have e := hK k (by omega)
  have z : (h * 18446744073709551616 + l) / 2 ^ 128 = 0 := by
    rw [show (2 : Int) ^ 128 = 340282366920938463463374607431768211456 by decide]; omega
  rw [z] at e
  simp only [Int.zero_emod, Int.zero_ediv, Int.zero_mul] at e
  rw [show (h * 18446744073709551616 + l) / 18446744073709551616 = h by omega, show (h * 18446744073709551616 + l) % 18446744073709551616 = l by omega] at e
  simp only [tumblerref02_By.f, tumblerref02_By.j0]
  rw [if_neg (by omega), if_neg (by simpa using hn')]
  exact e
end Go.Proofs.Ytifhebempfjcmaa.MM
