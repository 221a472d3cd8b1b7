/- The reference's Round. -/
import Derived.Test.YtifhebempfjcmaaMTimes
import Derived.Test.YtifhebempfjcmaaMBy
import Derived.Test.YtifhebempfjcmaaMTen
import Derived.Test.YtifhebempfjcmaaMSmallR
import Derived.Test.YtifhebempfjcmaaPxf20
namespace Go.Proofs.Ytifhebempfjcmaa.MM
open Go.RowKit Go.Proofs.Ytifhebempfjcmaa.P Go.Proofs.YtifhebempfjcmaaW.PrintWords Go.Proofs.YtifhebempfjcmaaW.PrintMore Go.Proofs.Ytifhebempfjcmaa.Mine
set_option linter.unusedVariables false
set_option linter.unusedSimpArgs false

theorem RoundR_is (v : Int) (n : Nat) (hv : Hi v) (hn : n ≤ 6) : Ev (fun k => tumblerref02_Round.f k v (6 - (n : Int))) (fit ((if v < 0 then -(near (mag v) (10 ^ n)) else near (mag v) (10 ^ n)) * 10 ^ n)) := by
  obtain ⟨t1, t0⟩ := ten_le hn
  obtain ⟨K0, hK0⟩ := Ten_is n hn
  generalize (10 : Int) ^ n = t at *
  have hm := mag_Hi hv
  obtain ⟨n0, n1, p0, p1, _⟩ := near_lim (mag v) t hm (by omega)
  have hr := Int.emod_lt_of_pos (mag v) (show 0 < t by omega)
  have hr0 := Int.emod_nonneg (mag v) (show t ≠ 0 by omega)
  have q0 : 0 ≤ mag v / t := Int.ediv_nonneg hm.1 (by omega)
  have q1 : mag v / t ≤ mag v := Int.ediv_le_self _ hm.1
  have z : U 0 := by unfold U; decide
  obtain ⟨K1, hK1⟩ := By_is 0 (mag v) t z (by unfold U; omega) (by omega) (by omega)
  obtain ⟨K2, hK2⟩ := Times_is 0 (near (mag v) t) t z (by unfold U; omega) (by unfold U; omega)
  obtain ⟨K3, hK3⟩ := Small_is (near (mag v) t * t / 18446744073709551616) (near (mag v) t * t % 18446744073709551616) (decide (v < 0)) (U_div _ p0 (by omega)) (U_mod _)
  have f := small_fit (near (mag v) t * t) (decide (v < 0)) p0
  have es : (if decide (v < 0) = true then -(near (mag v) t * t) else near (mag v) t * t) = (if v < 0 then -(near (mag v) t) else near (mag v) t) * t := by
    by_cases c : v < 0 <;> simp only [c, decide_true, decide_false, if_true, if_false, Bool.false_eq_true, Int.neg_mul]
  rw [es] at f
  refine ⟨max K0 (max K1 (max K2 K3)) + 3, fun k hk => ?_⟩
  obtain ⟨k, rfl⟩ : ∃ j, k = j + 3 := ⟨k - 3, by omega⟩
  have e0 := hK0 (k + 2) (by omega)
  have e1 := hK1 (k + 2) (by omega)
  have e2 := hK2 k (by omega)
  have e3 := hK3 k (by omega)
  simp only [Int.zero_mul, Int.zero_add] at e0 e1 e2 e3
  rw [Int.emod_eq_of_lt p0 (by omega), decide_eq_false (by omega)] at e2
  rw [U_join] at e3
  have last : tumblerref02_Round.j2 (k + 1) (decide (v < 0)) t 0 (near (mag v) t) false = some (fit ((if v < 0 then -(near (mag v) t) else near (mag v) t) * t)) := by
    simp only [tumblerref02_Round.j2, e2, Option.bind_some, e3]
    exact f
  clear e2 e3 f hK0 hK1 hK2 hK3 es
  simp only [tumblerref02_Round.f, tumblerref02_Round.j0]
  rw [if_neg (by omega), decide_eq_false (by omega), if_neg (by decide), wrap_in (by omega), show (6 : Int) - (6 - (n : Int)) = n by omega, Of_is v hv]
  simp only [Option.bind_some, e0, e1]
  rw [wraps_u64 (2 * (mag v % t)) (by omega) (by omega), show mag v / t / 18446744073709551616 = 0 by omega, show mag v / t % 18446744073709551616 = mag v / t by omega]
  by_cases d : t ≤ 2 * (mag v % t)
  · have hnear : near (mag v) t = mag v / t + 1 := by unfold near; rw [if_pos d]
    rw [if_pos (by omega), show decide (t > 1) = true from decide_eq_true (by omega)]
    simp only [tumblerref02_Round.j1, if_true]
    rw [Plus_fits 0 (mag v / t) 0 1 z (by unfold U; omega) z (by unfold U; decide) (by omega)]
    simp only [Option.bind_some]
    rw [show (0 * 18446744073709551616 + mag v / t + (0 * 18446744073709551616 + 1)) / 18446744073709551616 = 0 by omega, show (0 * 18446744073709551616 + mag v / t + (0 * 18446744073709551616 + 1)) % 18446744073709551616 = near (mag v) t by omega]
    exact last
  · have hnear : near (mag v) t = mag v / t := by unfold near; rw [if_neg d]; omega
    rw [if_neg (by omega)]
    simp only [tumblerref02_Round.j1, Bool.false_eq_true, if_false]
    rw [← hnear]
    exact last
end Go.Proofs.Ytifhebempfjcmaa.MM
