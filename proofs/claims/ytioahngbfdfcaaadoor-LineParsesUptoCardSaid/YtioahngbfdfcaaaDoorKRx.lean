import Derived.Test.YtioahngbfdfcaaaDoorKRc
set_option linter.unusedVariables false
set_option linter.unusedSimpArgs false
namespace Go.Proofs.YtioahngbfdfcaaaDoor
open Go Go.Den Go.RowKit
variable {W0 : World}
/-! tumblerref02: Plus, Times -/
abbrev M28 : Int := 340282366920938463463374607431768211456
theorem mg3 {a b X : Int} {c d : Bool} (h1 : a = X / 18446744073709551616) (h2 : b = X % 18446744073709551616) (h3 : c = d) : Value.agg #[.int .u64 a, .int .u64 b, .bool c] = mgV X d := by rw [h1, h2, h3]
set_option maxHeartbeats 4000000 in
theorem ref2_Plus (A D : Int) (oa ob : Bool) (hA : 0 ≤ A) (hA' : A < 340282366920938463463374607431768211456) (hD : 0 ≤ D) (hD' : D < 340282366920938463463374607431768211456) :
    PureF (C W0) I.tumblerref02_Plus [mgV A oa, mgV D ob] (mgV ((A + D) % 340282366920938463463374607431768211456) (oa || ob || decide (340282366920938463463374607431768211456 ≤ A + D))) := by
  refine PureF.E (CallP.of_body (C_ok W0) B.tumblerref02_Plus rfl rfl rfl ?_)
  by_cases cy : 18446744073709551616 ≤ A % 18446744073709551616 + D % 18446744073709551616
  · have w1 : IntKind.u64.wrap (A % 18446744073709551616 + D % 18446744073709551616) = A % 18446744073709551616 + D % 18446744073709551616 - 18446744073709551616 := by rw [wrap_u64]; omega
    by_cases h1 : 18446744073709551616 ≤ A / 18446744073709551616 + D / 18446744073709551616
    · have w2 : IntKind.u64.wrap (A / 18446744073709551616 + D / 18446744073709551616) = A / 18446744073709551616 + D / 18446744073709551616 - 18446744073709551616 := by rw [wrap_u64]; omega
      have w3 : IntKind.u64.wrap (IntKind.u64.wrap (A / 18446744073709551616 + D / 18446744073709551616) + 1) = A / 18446744073709551616 + D / 18446744073709551616 - 18446744073709551616 + 1 := by rw [w2, wrap_u64]; omega
      have ov : (340282366920938463463374607431768211456 ≤ A + D) = (true = true) := by simp; omega
      cases oa <;> cases ob
      all_goals
        repeat' first
          | refine brP.tD (by omega) ?_
          | refine brP.fD (by omega) ?_
          | (apply Here.norm; (first | dsimp only [Env.putR, argEnv, pure1, newPtr, applyE, hset, List.length_cons, List.length_nil, List.length_append, List.set, List.cons_append, List.nil_append] | rfl); (first | dsimp only [Env.putR, argEnv, pure1, newPtr, applyE, hset, List.length_cons, List.length_nil, List.length_append, List.set, List.cons_append, List.nil_append] | rfl))
          | refine ⟨_, _, _, _, _, rfl, rfl, rfl, Fits.mk (by first | exact Nat.le_of_ble_eq_true rfl | (dsimp only; omega)), rfl, ?_⟩
          | refine ⟨_, _, _, _, _, rfl, _, rfl, ?_⟩
          | refine ⟨_, _, _, _, _, rfl, Fits.mk (by first | exact Nat.le_of_ble_eq_true rfl | (dsimp only; omega)), _, rfl, ?_⟩
          | refine ⟨by decide, ?_⟩
          | fail
        refine mg3 (by omega) (by omega) ?_
        first
          | (simp [ov]; done)
          | (simp [ov]; omega)
    · have w2 : IntKind.u64.wrap (A / 18446744073709551616 + D / 18446744073709551616) = A / 18446744073709551616 + D / 18446744073709551616 := by rw [wrap_u64]; omega
      by_cases h2 : A / 18446744073709551616 + D / 18446744073709551616 = 18446744073709551615
      · have w3 : IntKind.u64.wrap (IntKind.u64.wrap (A / 18446744073709551616 + D / 18446744073709551616) + 1) = 0 := by rw [w2, wrap_u64]; omega
        have ov : (340282366920938463463374607431768211456 ≤ A + D) = (true = true) := by simp; omega
        cases oa <;> cases ob
        all_goals
          repeat' first
            | refine brP.tD (by omega) ?_
            | (apply Here.norm; (first | dsimp only [Env.putR, argEnv, pure1, newPtr, applyE, hset, List.length_cons, List.length_nil, List.length_append, List.set, List.cons_append, List.nil_append] | rfl); (first | dsimp only [Env.putR, argEnv, pure1, newPtr, applyE, hset, List.length_cons, List.length_nil, List.length_append, List.set, List.cons_append, List.nil_append] | rfl))
            | refine ⟨_, _, _, _, _, rfl, rfl, rfl, Fits.mk (by first | exact Nat.le_of_ble_eq_true rfl | (dsimp only; omega)), rfl, ?_⟩
            | refine ⟨_, _, _, _, _, rfl, _, rfl, ?_⟩
            | refine ⟨_, _, _, _, _, rfl, Fits.mk (by first | exact Nat.le_of_ble_eq_true rfl | (dsimp only; omega)), _, rfl, ?_⟩
            | refine ⟨by decide, ?_⟩
            | fail
          refine mg3 (by omega) (by omega) ?_
          first
            | (simp [ov]; done)
            | (simp [ov]; omega)
      · have w3 : IntKind.u64.wrap (IntKind.u64.wrap (A / 18446744073709551616 + D / 18446744073709551616) + 1) = A / 18446744073709551616 + D / 18446744073709551616 + 1 := by rw [w2, wrap_u64]; omega
        have ov : (340282366920938463463374607431768211456 ≤ A + D) = (false = true) := by simp; omega
        cases oa <;> cases ob
        all_goals
          repeat' first
            | refine brP.tD (by omega) ?_
            | refine brP.fD (by omega) ?_
            | (apply Here.norm; (first | dsimp only [Env.putR, argEnv, pure1, newPtr, applyE, hset, List.length_cons, List.length_nil, List.length_append, List.set, List.cons_append, List.nil_append] | rfl); (first | dsimp only [Env.putR, argEnv, pure1, newPtr, applyE, hset, List.length_cons, List.length_nil, List.length_append, List.set, List.cons_append, List.nil_append] | rfl))
            | refine ⟨_, _, _, _, _, rfl, rfl, rfl, Fits.mk (by first | exact Nat.le_of_ble_eq_true rfl | (dsimp only; omega)), rfl, ?_⟩
            | refine ⟨_, _, _, _, _, rfl, _, rfl, ?_⟩
            | refine ⟨_, _, _, _, _, rfl, Fits.mk (by first | exact Nat.le_of_ble_eq_true rfl | (dsimp only; omega)), _, rfl, ?_⟩
            | refine ⟨by decide, ?_⟩
            | fail
          refine mg3 (by omega) (by omega) ?_
          first
            | (simp [ov]; done)
            | (simp [ov]; omega)
  · have w1 : IntKind.u64.wrap (A % 18446744073709551616 + D % 18446744073709551616) = A % 18446744073709551616 + D % 18446744073709551616 := by rw [wrap_u64]; omega
    by_cases h1 : 18446744073709551616 ≤ A / 18446744073709551616 + D / 18446744073709551616
    · have w2 : IntKind.u64.wrap (A / 18446744073709551616 + D / 18446744073709551616) = A / 18446744073709551616 + D / 18446744073709551616 - 18446744073709551616 := by rw [wrap_u64]; omega
      have w3 : IntKind.u64.wrap (IntKind.u64.wrap (A / 18446744073709551616 + D / 18446744073709551616) + 0) = A / 18446744073709551616 + D / 18446744073709551616 - 18446744073709551616 := by rw [w2, wrap_u64]; omega
      have ov : (340282366920938463463374607431768211456 ≤ A + D) = (true = true) := by simp; omega
      cases oa <;> cases ob
      all_goals
        repeat' first
          | refine brP.fD (by omega) ?_
          | (apply Here.norm; (first | dsimp only [Env.putR, argEnv, pure1, newPtr, applyE, hset, List.length_cons, List.length_nil, List.length_append, List.set, List.cons_append, List.nil_append] | rfl); (first | dsimp only [Env.putR, argEnv, pure1, newPtr, applyE, hset, List.length_cons, List.length_nil, List.length_append, List.set, List.cons_append, List.nil_append] | rfl))
          | refine ⟨_, _, _, _, _, rfl, rfl, rfl, Fits.mk (by first | exact Nat.le_of_ble_eq_true rfl | (dsimp only; omega)), rfl, ?_⟩
          | refine ⟨_, _, _, _, _, rfl, _, rfl, ?_⟩
          | refine ⟨_, _, _, _, _, rfl, Fits.mk (by first | exact Nat.le_of_ble_eq_true rfl | (dsimp only; omega)), _, rfl, ?_⟩
          | refine ⟨by decide, ?_⟩
          | fail
        refine mg3 (by omega) (by omega) ?_
        first
          | (simp [ov]; done)
          | (simp [ov]; omega)
    · have w2 : IntKind.u64.wrap (A / 18446744073709551616 + D / 18446744073709551616) = A / 18446744073709551616 + D / 18446744073709551616 := by rw [wrap_u64]; omega
      have w3 : IntKind.u64.wrap (IntKind.u64.wrap (A / 18446744073709551616 + D / 18446744073709551616) + 0) = A / 18446744073709551616 + D / 18446744073709551616 := by rw [w2, wrap_u64]; omega
      have ov : (340282366920938463463374607431768211456 ≤ A + D) = (false = true) := by simp; omega
      cases oa <;> cases ob
      all_goals
        repeat' first
          | refine brP.fD (by omega) ?_
          | (apply Here.norm; (first | dsimp only [Env.putR, argEnv, pure1, newPtr, applyE, hset, List.length_cons, List.length_nil, List.length_append, List.set, List.cons_append, List.nil_append] | rfl); (first | dsimp only [Env.putR, argEnv, pure1, newPtr, applyE, hset, List.length_cons, List.length_nil, List.length_append, List.set, List.cons_append, List.nil_append] | rfl))
          | refine ⟨_, _, _, _, _, rfl, rfl, rfl, Fits.mk (by first | exact Nat.le_of_ble_eq_true rfl | (dsimp only; omega)), rfl, ?_⟩
          | refine ⟨_, _, _, _, _, rfl, _, rfl, ?_⟩
          | refine ⟨_, _, _, _, _, rfl, Fits.mk (by first | exact Nat.le_of_ble_eq_true rfl | (dsimp only; omega)), _, rfl, ?_⟩
          | refine ⟨by decide, ?_⟩
          | fail
        refine mg3 (by omega) (by omega) ?_
        first
          | (simp [ov]; done)
          | (simp [ov]; omega)
end Go.Proofs.YtioahngbfdfcaaaDoor
