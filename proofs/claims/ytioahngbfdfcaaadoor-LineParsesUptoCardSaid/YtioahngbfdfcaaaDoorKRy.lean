import Derived.Test.YtioahngbfdfcaaaDoorKRx
set_option linter.unusedVariables false
set_option linter.unusedSimpArgs false
namespace Go.Proofs.YtioahngbfdfcaaaDoor
open Go Go.Den Go.RowKit
variable {W0 : World}
/-! tumblerref02: Times -/
/-- Twice, and perhaps once more. -/
abbrev tmS (A n : Int) (i : Nat) : Int := A * (n / 2 ^ i)
set_option maxHeartbeats 4000000 in
theorem ref2_Times (A n : Int) (hA : 0 ≤ A) (hA' : A < 340282366920938463463374607431768211456) (hn : 0 ≤ n) (hn' : n < 18446744073709551616) :
    PureF (C W0) I.tumblerref02_Times [mgV A false, .int .u64 n] (mgV (A * n % 340282366920938463463374607431768211456) (decide (340282366920938463463374607431768211456 ≤ A * n))) := by
  refine PureF.E (CallP.of_body (C_ok W0) B.tumblerref02_Times rfl rfl rfl ?_)
  repeat' first
    | (apply Here.norm; (first | dsimp only [Env.putR, argEnv, pure1, newPtr, applyE, hset, List.length_cons, List.length_nil, List.length_append, List.set, List.cons_append, List.nil_append] | rfl); (first | dsimp only [Env.putR, argEnv, pure1, newPtr, applyE, hset, List.length_cons, List.length_nil, List.length_append, List.set, List.cons_append, List.nil_append] | rfl))
    | refine ⟨_, _, _, _, _, rfl, rfl, rfl, Fits.mk (by first | exact Nat.le_of_ble_eq_true rfl | (dsimp only; omega)), rfl, ?_⟩
    | fail
  refine loop_I (C_ok W0) (fun m : Nat => m ≤ 64)
    (fun m => [(1, .int .u64 n), (2, .pointer (some ⟨0, 0, none⟩)), (4, .pointer (some ⟨1, 0, none⟩)), (5, .pointer (some ⟨2, 0, none⟩)), (6, .int .i64 ((m : Int) - 1))])
    (fun m => [mgB A false, mgB 0 false, mgB (tmS A n m % 340282366920938463463374607431768211456) (decide (340282366920938463463374607431768211456 ≤ tmS A n m))]) (fun m => m) 64 (Nat.le_refl _) ⟨_, rfl, ?_⟩ ?_
  · have e : n / 2 ^ 64 = 0 := Int.ediv_eq_zero_of_lt hn hn'
    unfold tmS
    rw [e, Int.mul_zero]
    exact RT.of_eq rfl rfl
  · intro m hm
    dsimp only
    cases m with
    | zero =>
      have e : tmS A n 0 = A * n := by unfold tmS; simp
      repeat' first
        | (apply Here.norm; (first | dsimp only [Env.putR, argEnv, pure1, newPtr, applyE, hset, List.length_cons, List.length_nil, List.length_append, List.set, List.cons_append, List.nil_append] | rfl); (first | dsimp only [Env.putR, argEnv, pure1, newPtr, applyE, hset, List.length_cons, List.length_nil, List.length_append, List.set, List.cons_append, List.nil_append] | rfl))
        | refine ⟨_, _, _, _, _, rfl, rfl, rfl, Fits.mk (by first | exact Nat.le_of_ble_eq_true rfl | (dsimp only; omega)), rfl, ?_⟩
        | refine ⟨_, _, _, _, _, rfl, Fits.mk (by first | exact Nat.le_of_ble_eq_true rfl | (dsimp only; omega)), _, rfl, ?_⟩
        | fail
      rw [e]; rfl
    | succ k =>
      have hk : k < 64 := by omega
      have hk1 : ((k + 1 : Nat) : Int) - 1 = (k : Int) := by omega
      have hnext : IntKind.i64.wrap ((k : Int) - 1) = (k : Int) - 1 := by rw [wr_i64]; omega
      have kw : IntKind.u64.wrap (k : Int) = (k : Int) := by rw [wrap_u64]; omega
      rw [hk1]
      have ts : n / 2 ^ k = 2 * (n / 2 ^ (k + 1)) + n / 2 ^ k % 2 := two_split n k
      have p0 : 0 ≤ n / 2 ^ (k + 1) := Int.ediv_nonneg hn (Int.le_of_lt (two_pos _))
      have P0 : 0 ≤ tmS A n (k + 1) := Int.mul_nonneg hA p0
      have eP : tmS A n k = 2 * tmS A n (k + 1) + A * (n / 2 ^ k % 2) := by
        unfold tmS
        generalize n / 2 ^ (k + 1) = q at *
        generalize n / 2 ^ k % 2 = r at *
        rw [ts]; grind
      have bt : Go.bits .and .u64 (shrV .u64 n (IntKind.u64.wrap (k : Int))) 1 = n / 2 ^ k % 2 := by
        have q0 : 0 ≤ n / 2 ^ k := Int.ediv_nonneg hn (Int.le_of_lt (two_pos _))
        have q1 : n / 2 ^ k ≤ n := Int.ediv_le_self _ hn
        rw [kw, shr_at n k (by omega) (by omega), Int.toNat_natCast, and_one _ q0 (by omega)]
      clear ts p0
      generalize tmS A n (k + 1) = P at *
      have p1 := ref2_Plus (W0 := W0) (P % 340282366920938463463374607431768211456) (P % 340282366920938463463374607431768211456) (decide (340282366920938463463374607431768211456 ≤ P)) (decide (340282366920938463463374607431768211456 ≤ P)) (by omega) (by omega) (by omega) (by omega)
      have v1 : (P % 340282366920938463463374607431768211456 + P % 340282366920938463463374607431768211456) % 340282366920938463463374607431768211456 = 2 * P % 340282366920938463463374607431768211456 := by omega
      have o1 : (decide (340282366920938463463374607431768211456 ≤ P) || decide (340282366920938463463374607431768211456 ≤ P) || decide (340282366920938463463374607431768211456 ≤ P % 340282366920938463463374607431768211456 + P % 340282366920938463463374607431768211456)) = decide (340282366920938463463374607431768211456 ≤ 2 * P) := by
        by_cases h : 340282366920938463463374607431768211456 ≤ P
        · rw [decide_eq_true h, decide_eq_true (show 340282366920938463463374607431768211456 ≤ 2 * P by omega)]; rfl
        · rw [decide_eq_false h, Bool.false_or, Bool.false_or, decide_eq_decide]; omega
      rw [v1, o1] at p1
      rcases (by omega : n / 2 ^ k % 2 = 0 ∨ n / 2 ^ k % 2 = 1) with hb | hb
      · rw [hb] at bt
        have eQ : tmS A n k = 2 * P := by rw [eP, hb]; omega
        repeat' first
          | refine brP.fD (by omega) ?_
          | refine ⟨ShB.mk (by rw [kw]; omega), ?_⟩
          | refine (p1).call ?_
          | (apply Here.norm; (first | dsimp only [Env.putR, argEnv, pure1, newPtr, applyE, hset, List.length_cons, List.length_nil, List.length_append, List.set, List.cons_append, List.nil_append] | rfl); (first | dsimp only [Env.putR, argEnv, pure1, newPtr, applyE, hset, List.length_cons, List.length_nil, List.length_append, List.set, List.cons_append, List.nil_append] | rfl))
          | refine ⟨_, _, _, _, _, rfl, rfl, rfl, Fits.mk (by first | exact Nat.le_of_ble_eq_true rfl | (dsimp only; omega)), rfl, ?_⟩
          | refine ⟨_, _, _, _, _, rfl, Fits.mk (by first | exact Nat.le_of_ble_eq_true rfl | (dsimp only; omega)), _, rfl, ?_⟩
          | fail
        apply Again.mk k
        · omega
        · omega
        refine ⟨_, rfl, RT.of_eq (by rw [hnext]; rfl) ?_⟩
        rw [eQ]; rfl
      · rw [hb] at bt
        have eQ : tmS A n k = 2 * P + A := by rw [eP, hb]; omega
        have p2 := ref2_Plus (W0 := W0) (2 * P % 340282366920938463463374607431768211456) A (decide (340282366920938463463374607431768211456 ≤ 2 * P)) false (by omega) (by omega) hA hA'
        have v2 : (2 * P % 340282366920938463463374607431768211456 + A) % 340282366920938463463374607431768211456 = (2 * P + A) % 340282366920938463463374607431768211456 := by omega
        have o2 : (decide (340282366920938463463374607431768211456 ≤ 2 * P) || false || decide (340282366920938463463374607431768211456 ≤ 2 * P % 340282366920938463463374607431768211456 + A)) = decide (340282366920938463463374607431768211456 ≤ 2 * P + A) := by
          by_cases h : 340282366920938463463374607431768211456 ≤ 2 * P
          · rw [decide_eq_true h, decide_eq_true (show 340282366920938463463374607431768211456 ≤ 2 * P + A by omega)]; rfl
          · rw [decide_eq_false h, Bool.false_or, Bool.false_or, decide_eq_decide]; omega
        rw [v2, o2] at p2
        repeat' first
          | refine brP.tD (by omega) ?_
          | refine ⟨ShB.mk (by rw [kw]; omega), ?_⟩
          | refine (p1).call ?_
          | refine (p2).call ?_
          | (apply Here.norm; (first | dsimp only [Env.putR, argEnv, pure1, newPtr, applyE, hset, List.length_cons, List.length_nil, List.length_append, List.set, List.cons_append, List.nil_append] | rfl); (first | dsimp only [Env.putR, argEnv, pure1, newPtr, applyE, hset, List.length_cons, List.length_nil, List.length_append, List.set, List.cons_append, List.nil_append] | rfl))
          | refine ⟨_, _, _, _, _, rfl, rfl, rfl, Fits.mk (by first | exact Nat.le_of_ble_eq_true rfl | (dsimp only; omega)), rfl, ?_⟩
          | refine ⟨_, _, _, _, _, rfl, Fits.mk (by first | exact Nat.le_of_ble_eq_true rfl | (dsimp only; omega)), _, rfl, ?_⟩
          | fail
        apply Again.mk k
        · omega
        · omega
        refine ⟨_, rfl, RT.of_eq (by rw [hnext]; rfl) ?_⟩
        rw [eQ]; rfl
end Go.Proofs.YtioahngbfdfcaaaDoor
