/- Micro.Round. -/
import Derived.Test.YtifhebempfjcmaaMMSmall
import Derived.Test.YtifhebempfjcmaaMMul
import Derived.Test.YtifhebempfjcmaaPxf36
import Derived.Test.YtifhebempfjcmaaPxf19
namespace Go.Proofs.Ytifhebempfjcmaa.MM
open Go.RowKit Go.Proofs.Ytifhebempfjcmaa.P Go.Proofs.YtifhebempfjcmaaW.PrintWords Go.Proofs.YtifhebempfjcmaaW.PrintMore Go.Proofs.Ytifhebempfjcmaa.Mine
set_option linter.unusedVariables false
set_option linter.unusedSimpArgs false

theorem tens_is (n : Nat) (hn : n ≤ 6) : micro_tens.f n = some (10 ^ n) := by
  have : ∀ i : Fin 7, micro_tens.f (i.val : Int) = some (10 ^ i.val) := by decide
  exact this ⟨n, by omega⟩
theorem Round_last (q t : Int) (hq : -9223372036854775808 ≤ q ∧ q ≤ 9223372036854775807) (ht : 1 ≤ t ∧ t ≤ 1000000) : Ev (fun k => micro_Round.j2 k t q) (fit (q * t)) := by
  have lim := mul_lim q t 9223372036854775808 1000000 (by omega) (by omega) (by decide) (by decide)
  obtain ⟨K, hK⟩ := Mul_is _ _ _ _ (show Hi (q / 18446744073709551616) by unfold Hi; omega) (U_mod q) (show Hi (t / 18446744073709551616) by unfold Hi; omega) (U_mod t)
  refine ⟨K + 1, fun k hk => ?_⟩
  obtain ⟨k, rfl⟩ : ∃ j, k = j + 1 := ⟨k - 1, by omega⟩
  have e := hK k (by omega)
  simp only [U_join] at e
  simp only [micro_Round.j2]
  rw [WOf_is q hq, WOf_is t (Hi_c _ (by omega))]
  simp only [Option.bind_some, e]
  rw [wenc_in (by omega)]
  simp only
  rw [msmall_is _ (by omega)]
  rfl
theorem Round_is (v : Int) (n : Nat) (hv : Hi v) (hn : n ≤ 6) : Ev (fun k => micro_Round.f k v (6 - (n : Int))) (fit ((if v < 0 then -(near (mag v) (10 ^ n)) else near (mag v) (10 ^ n)) * 10 ^ n)) := by
  obtain ⟨t1, t0⟩ := ten_le hn
  have tn := tens_is n hn
  generalize (10 : Int) ^ n = t at *
  have hm := mag_Hi hv
  obtain ⟨n0, n1, _⟩ := near_lim (mag v) t hm (by omega)
  obtain ⟨rq, rr⟩ := round_quo v t (by omega)
  have r0 := Int.emod_nonneg (mag v) (show t ≠ 0 by omega)
  have r1 := Int.emod_lt_of_pos (mag v) (show 0 < t by omega)
  have q0 : 0 ≤ mag v / t := Int.ediv_nonneg hm.1 (by omega)
  have q1 : mag v / t ≤ mag v := Int.ediv_le_self _ hm.1
  have hq : ∀ q, q = (if v < 0 then -(near (mag v) t) else near (mag v) t) → -9223372036854775808 ≤ q ∧ q ≤ 9223372036854775807 := by
    intro q e
    have hp : near (mag v) t ≤ mag v ∨ t ≤ 1 := by
      by_cases h1 : t ≤ 1
      · exact .inr h1
      · refine .inl ?_
        have e := Int.emod_add_mul_ediv (mag v) t
        have : 2 * (mag v / t) ≤ t * (mag v / t) := Int.mul_le_mul_of_nonneg_right (by omega) q0
        unfold near; split <;> omega
    have h1 : near (mag v) t ≤ mag v := by
      rcases hp with h | h
      · exact h
      · unfold near; rw [if_neg (by omega)]; omega
    unfold mag Hi at *
    rw [e]
    split <;> simp_all <;> omega
  obtain ⟨K, hK⟩ := Round_last _ t (hq _ rfl) (by omega)
  refine ⟨K + 2, fun k hk => ?_⟩
  obtain ⟨k, rfl⟩ : ∃ j, k = j + 2 := ⟨k - 2, by omega⟩
  have e := hK k (by omega)
  simp only at e
  have e' : ∀ q, q = (if v < 0 then -(near (mag v) t) else near (mag v) t) → micro_Round.j2 k t q = some (fit ((if v < 0 then -(near (mag v) t) else near (mag v) t) * t)) := fun q hq => by rw [hq]; exact e
  simp only [micro_Round.f, micro_Round.j0]
  rw [if_neg (by omega), decide_eq_false (by omega), if_neg (by decide), wrap_in (by omega), show (6 : Int) - (6 - (n : Int)) = n by omega, tn]
  simp only [Option.bind_some]
  rw [if_neg (by omega), rq, rr]
  simp only [micro_Round.j1]
  clear e hK hq rq rr tn
  have q2 : 2 ≤ t → 2 * (mag v / t) ≤ mag v := by
    intro h2
    have e := Int.emod_add_mul_ediv (mag v) t
    have : 2 * (mag v / t) ≤ t * (mag v / t) := Int.mul_le_mul_of_nonneg_right h2 q0
    omega
  by_cases c : v < 0
  · simp only [if_pos c] at e' ⊢
    have hmv : mag v = -v := mag_neg c
    rw [wrap_in (x := 2 * -(mag v % t)) (by omega), if_neg (by omega), if_neg (by decide), wrap_in (x := -2 * -(mag v % t)) (by omega)]
    rw [wrap_in (x := -(mag v / t)) (by unfold Hi at hv; omega)]
    by_cases d : t ≤ 2 * (mag v % t)
    · have hnear : near (mag v) t = mag v / t + 1 := by unfold near; rw [if_pos d]
      rw [if_pos (by omega), if_pos (by omega), wrap_in (by omega)]
      exact e' _ (by omega)
    · have hnear : near (mag v) t = mag v / t := by unfold near; rw [if_neg d]; omega
      rw [if_neg (by omega)]
      exact e' _ (by omega)
  · simp only [if_neg c] at e' ⊢
    have hmv : mag v = v := mag_pos (by omega)
    rw [wrap_in (x := 2 * (mag v % t)) (by omega), wrap_in (x := mag v / t) (by unfold Hi at hv; omega)]
    by_cases d : t ≤ 2 * (mag v % t)
    · have hnear : near (mag v) t = mag v / t + 1 := by unfold near; rw [if_pos d]
      rw [if_pos (by omega), decide_eq_true (by omega), if_pos rfl, wrap_in (by unfold Hi at hv; omega)]
      exact e' _ (by omega)
    · have hnear : near (mag v) t = mag v / t := by unfold near; rw [if_neg d]; omega
      rw [if_neg (by omega), if_neg (by decide), wrap_in (x := -2 * (mag v % t)) (by omega), if_neg (by omega)]
      exact e' _ (by omega)
end Go.Proofs.Ytifhebempfjcmaa.MM
