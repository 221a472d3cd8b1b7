/- The reference's product of an amount and a number. -/
import Derived.Test.YtifhebempfjcmaaMPlus
import Derived.Test.YtifhebempfjcmaaPxf18
namespace Go.Proofs.Ytifhebempfjcmaa.MM
open Go.RowKit Go.Proofs.Ytifhebempfjcmaa.P Go.Proofs.YtifhebempfjcmaaW.PrintWords Go.Proofs.YtifhebempfjcmaaW.PrintMore Go.Proofs.Ytifhebempfjcmaa.Mine
set_option linter.unusedVariables false
set_option linter.unusedSimpArgs false

/-- Times, from the round of bit m - 1 on. -/
theorem Times_from (a n : Int) (ha : 0 ≤ a) (hn : U n) (m : Nat) : m ≤ 64 → ∀ S, S = a * (n / 2 ^ m) →
    Ev (fun k => tumblerref02_Times.l0 k n ((m : Int) - 1) (a % 340282366920938463463374607431768211456 / 18446744073709551616) (a % 18446744073709551616) (decide (340282366920938463463374607431768211456 ≤ a))
      (S % 340282366920938463463374607431768211456 / 18446744073709551616) (S % 18446744073709551616) (decide (340282366920938463463374607431768211456 ≤ S)))
      (a * n % 340282366920938463463374607431768211456 / 18446744073709551616, a * n % 18446744073709551616, decide (340282366920938463463374607431768211456 ≤ a * n)) := by
  induction m with
  | zero =>
    intro _ S hS
    refine ⟨1, fun k hk => ?_⟩
    obtain ⟨k, rfl⟩ : ∃ j, k = j + 1 := ⟨k - 1, by omega⟩
    simp only [tumblerref02_Times.l0]
    rw [if_neg (by decide), hS, Int.pow_zero, Int.ediv_one]
  | succ m ih =>
    intro hm S hS
    have hb := two_split n m
    have hS0 : 0 ≤ S := by rw [hS]; exact Int.mul_nonneg ha (Int.ediv_nonneg hn.1 (Int.le_of_lt (two_pos _)))
    have hb' : n / 2 ^ m % 2 = 0 ∨ n / 2 ^ m % 2 = 1 := by omega
    have hi : ((m : Int) + 1 - 1) = m := by omega
    have hw : IntKind.u64.wrap (m : Int) = m := wraps_u64 _ (by omega) (by omega)
    have hbit : Go.bits .and .u64 (shr .u64 n (m : Int)) 1 = n / 2 ^ m % 2 := by
      rw [shr_at _ _ (by omega) (by omega), Int.toNat_natCast]
      have h0 : 0 ≤ n / 2 ^ m := Int.ediv_nonneg hn.1 (Int.le_of_lt (two_pos _))
      have h1 : n / 2 ^ m ≤ n := Int.ediv_le_self _ hn.1
      exact and_one _ h0 (by unfold U at hn; omega)
    have hnext : wrap64 ((m : Int) - 1) = (m : Int) - 1 := by unfold wrap64; omega
    rcases hb' with hb' | hb'
    · obtain ⟨K, hK⟩ := ih (by omega) (S + S) (by rw [hS, hb, hb', Int.add_zero, ← Int.mul_assoc, Int.mul_comm a 2, Int.mul_assoc]; omega)
      refine ⟨K + 1, fun k hk => ?_⟩
      obtain ⟨k, rfl⟩ : ∃ j, k = j + 1 := ⟨k - 1, by omega⟩
      simp only [tumblerref02_Times.l0, Int.natCast_succ]
      rw [hi, if_pos (by omega), Plus_is S S hS0 hS0]
      simp only [Option.bind_some]
      rw [hw, if_pos (by omega), hbit, hb', if_neg (by decide), hnext]
      exact hK k (by omega)
    · obtain ⟨K, hK⟩ := ih (by omega) (S + S + a) (by rw [hS, hb, hb', Int.mul_add, Int.mul_one, ← Int.mul_assoc, Int.mul_comm a 2, Int.mul_assoc]; omega)
      refine ⟨K + 1, fun k hk => ?_⟩
      obtain ⟨k, rfl⟩ : ∃ j, k = j + 1 := ⟨k - 1, by omega⟩
      simp only [tumblerref02_Times.l0, Int.natCast_succ]
      rw [hi, if_pos (by omega), Plus_is S S hS0 hS0]
      simp only [Option.bind_some]
      rw [hw, if_pos (by omega), hbit, hb', if_pos rfl, Plus_is (S + S) a (by omega) ha]
      simp only [Option.bind_some]
      rw [hnext]
      exact hK k (by omega)
theorem Times_is (h l n : Int) (hh : U h) (hl : U l) (hn : U n) :
    Ev (fun k => tumblerref02_Times.f k h l false n)
      ((h * 18446744073709551616 + l) * n % 340282366920938463463374607431768211456 / 18446744073709551616, (h * 18446744073709551616 + l) * n % 18446744073709551616, decide (340282366920938463463374607431768211456 ≤ (h * 18446744073709551616 + l) * n)) := by
  unfold U at hh hl
  have e := Times_from (h * 18446744073709551616 + l) n (by omega) hn 64 (by omega) 0 (by
    have : n / 2 ^ 64 = 0 := by unfold U at hn; omega
    rw [this, Int.mul_zero])
  rw [show (h * 18446744073709551616 + l) % 340282366920938463463374607431768211456 / 18446744073709551616 = h by omega, show (h * 18446744073709551616 + l) % 18446744073709551616 = l by omega,
    show decide (340282366920938463463374607431768211456 ≤ h * 18446744073709551616 + l) = false from decide_eq_false (by omega)] at e
  exact e
/-- The reference's product and ratio: an amount divided, with a sign. -/
theorem Times_small (a n : Int) (ha : Hi a) (hn : U n) (hp : mag a * n < 340282366920938463463374607431768211456) :
    Ev (fun k => tumblerref02_Times.f k 0 (mag a) false n) (mag a * n / 18446744073709551616, mag a * n % 18446744073709551616, false) := by
  have h0 := mag_nonneg a
  have e := Times_is 0 (mag a) n (by unfold U; decide) (by unfold U Hi mag at *; split <;> omega) hn
  rw [show (0 : Int) * 18446744073709551616 + mag a = mag a by omega, decide_eq_false (by omega), Int.emod_eq_of_lt (Int.mul_nonneg h0 hn.1) hp] at e
  exact e
end Go.Proofs.Ytifhebempfjcmaa.MM
