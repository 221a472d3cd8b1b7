import Derived.Test.YtkocmbgpiidkdaaGreatDoorKWb
set_option linter.unusedVariables false
set_option linter.unusedSimpArgs false
namespace Go.Proofs.YtkocmbgpiidkdaaGreatDoor
open Go Go.Den
variable {W0 : World}
theorem shr32 (x : Int) (h : 0 ≤ x) : shrV .u64 x 32 = x / 4294967296 := by
  rw [shr_at x 32 (by decide) (by decide)]; rfl
/-- math/bits.Mul64 by halves. -/
theorem mul64_math (x y : Int) (hx : U x) (hy : U y) (x1 x0 y1 y0 : Int) (e1 : x1 = x / 4294967296) (e0 : x0 = x % 4294967296) (f1 : y1 = y / 4294967296) (f0 : y0 = y % 4294967296) (t w1 : Int)
    (ht : t = IntKind.u64.wrap (IntKind.u64.wrap (x1 * y0) + IntKind.u64.wrap (x0 * y0) / 4294967296)) (hw : w1 = IntKind.u64.wrap (t % 4294967296 + IntKind.u64.wrap (x0 * y1))) :
    U (IntKind.u64.wrap (x0 * y0)) ∧ U t ∧ U w1 ∧ IntKind.u64.wrap (IntKind.u64.wrap (IntKind.u64.wrap (x1 * y1) + t / 4294967296) + w1 / 4294967296) = x * y / 18446744073709551616 := by
  have b1 : 0 ≤ x1 ∧ x1 ≤ 4294967295 := by unfold U at *; omega
  have b0 : 0 ≤ x0 ∧ x0 ≤ 4294967295 := by unfold U at *; omega
  have c1 : 0 ≤ y1 ∧ y1 ≤ 4294967295 := by unfold U at *; omega
  have c0 : 0 ≤ y0 ∧ y0 ≤ 4294967295 := by unfold U at *; omega
  have lim : ∀ a b : Int, 0 ≤ a ∧ a ≤ 4294967295 → 0 ≤ b ∧ b ≤ 4294967295 → 0 ≤ a * b ∧ a * b ≤ 18446744065119617025 := fun a b ha hb => by
    have h1 : a * b ≤ 4294967295 * 4294967295 := Int.mul_le_mul ha.2 hb.2 hb.1 (by omega)
    exact ⟨Int.mul_nonneg ha.1 hb.1, by omega⟩
  have p00 := lim x0 y0 b0 c0
  have p10 := lim x1 y0 b1 c0
  have p01 := lim x0 y1 b0 c1
  have p11 := lim x1 y1 b1 c1
  have hxy : x * y = x1 * y1 * 18446744073709551616 + (x1 * y0 + x0 * y1) * 4294967296 + x0 * y0 := by
    have e1 : x = x1 * 4294967296 + x0 := by omega
    have e2 : y = y1 * 4294967296 + y0 := by omega
    rw [e1, e2]; grind
  rw [hxy]
  clear hxy lim e1 e0 f1 f0 b0 b1 c0 c1 hx hy
  generalize x0 * y0 = a at *
  generalize x1 * y0 = b at *
  generalize x0 * y1 = c at *
  generalize x1 * y1 = d at *
  have ea : IntKind.u64.wrap a = a := by rw [wrap_u64]; omega
  have eb : IntKind.u64.wrap b = b := by rw [wrap_u64]; omega
  have ec : IntKind.u64.wrap c = c := by rw [wrap_u64]; omega
  have ed : IntKind.u64.wrap d = d := by rw [wrap_u64]; omega
  have et : IntKind.u64.wrap (b + a / 4294967296) = b + a / 4294967296 := by rw [wrap_u64]; omega
  rw [ea, eb, et] at ht
  have ew : IntKind.u64.wrap (t % 4294967296 + c) = t % 4294967296 + c := by rw [wrap_u64]; omega
  rw [ec, ew] at hw
  rw [ea, ed, wrap_u64, wrap_u64]
  unfold U
  omega
theorem bits_Mul64 (x y : Int) (hx : U x) (hy : U y) : PureF (C W0) I.math_bits_Mul64 [.int .u64 x, .int .u64 y] (.tuple #[.int .u64 (x * y / 18446744073709551616), .int .u64 (x * y % 18446744073709551616)]) := by
  refine PureF.E (CallP.of_body (C_ok W0) B.math_bits_Mul64 rfl rfl rfl ?_)
  obtain ⟨u1, u2, u3, key⟩ := mul64_math x y hx hy _ _ _ _ rfl rfl rfl rfl _ _ rfl rfl
  repeat' first
    | refine tu2 (vi ?_) (vi ?_)
    | (apply Here.norm; (first | dsimp only [Env.putR, argEnv, pure1, newPtr, applyE, hset, List.length_cons, List.length_nil, List.length_append, List.set, List.cons_append, List.nil_append] | rfl); (first | dsimp only [Env.putR, argEnv, pure1, newPtr, applyE, hset, List.length_cons, List.length_nil, List.length_append, List.set, List.cons_append, List.nil_append] | rfl))
    | refine ⟨ShB.mk (by first | decide | omega), ?_⟩
    | fail
  · show IntKind.u64.wrap (IntKind.u64.wrap (IntKind.u64.wrap (shrV .u64 x 32 * shrV .u64 y 32) + shrV .u64 _ 32) + shrV .u64 _ 32) = _
    rw [shr32 x hx.1, shr32 y hy.1, and_low x hx.1 hx.2, and_low y hy.1 hy.2, shr32 _ u1.1, shr32 _ u2.1, and_low _ u2.1 u2.2, shr32 _ u3.1]
    exact key
  · exact wrap_u64 _
theorem wide_signed2 (l h : Int) (hl : U l) (hh : U h) (b : Bool) : PureF (C W0) I.wide_signed [.agg #[.int .u64 l, .int .u64 h], .bool b] (wev (if b = true then -(h * 18446744073709551616 + l) else h * 18446744073709551616 + l)) := by
  unfold U at *
  have k := wide_signed (W0 := W0) (h * 18446744073709551616 + l) (by omega) (by omega) b
  have e1 : (h * 18446744073709551616 + l) % 18446744073709551616 = l := by omega
  have e2 : (h * 18446744073709551616 + l) / 18446744073709551616 = h := by omega
  unfold av at k
  rw [e1, e2] at k
  exact k
theorem mag_R {a : Int} (h : R a) : 0 ≤ mag a ∧ mag a ≤ 170141183460469231731687303715884105728 := by
  unfold R mag at *; split <;> omega
theorem neg_hi (a : Int) : decide (a / 18446744073709551616 < 0) = decide (a < 0) := by
  rw [decide_eq_decide]; omega
theorem mulN (M N : Int) (hM : 0 ≤ M) (hM' : M < 340282366920938463463374607431768211456) (hN : 0 ≤ N) (hN' : ¬ 0 < N / 18446744073709551616) (p q : Int) (hp : p = M / 18446744073709551616 * (N % 18446744073709551616)) (hq : q = M % 18446744073709551616 * (N % 18446744073709551616)) :
    (0 < p / 18446744073709551616 → 340282366920938463463374607431768211456 ≤ M * N) ∧ (¬ 0 < p / 18446744073709551616 → (0 < addHi (q / 18446744073709551616) (p % 18446744073709551616) 0 → 340282366920938463463374607431768211456 ≤ M * N) ∧
      (¬ 0 < addHi (q / 18446744073709551616) (p % 18446744073709551616) 0 → U (addLo (q / 18446744073709551616) (p % 18446744073709551616) 0) ∧ addLo (q / 18446744073709551616) (p % 18446744073709551616) 0 * 18446744073709551616 + q % 18446744073709551616 = M * N)) := by
  have u1 := U_div M hM hM'
  have v0 := U_mod N
  have u0 := U_mod M
  have e1 : N % 18446744073709551616 = N := by omega
  have hpq : M * N = p * 18446744073709551616 + q := by
    have e2 : M = M / 18446744073709551616 * 18446744073709551616 + M % 18446744073709551616 := by omega
    rw [hp, hq, e1]
    conv => lhs; rw [e2]
    rw [Int.add_mul, Int.mul_right_comm]
  have p1 : 0 ≤ p := by rw [hp]; exact Int.mul_nonneg u1.1 v0.1
  have q1 : 0 ≤ q := by rw [hq]; exact Int.mul_nonneg u0.1 v0.1
  have q2 : q ≤ 18446744073709551615 * 18446744073709551615 := by
    rw [hq]; unfold U at *; exact Int.mul_le_mul (by omega) (by omega) v0.1 (by omega)
  rw [hpq]
  have ub : U (q / 18446744073709551616) := by unfold U; omega
  rw [addHi_is _ _ _ ub (U_mod _) (by omega) (by omega), addLo_is _ _ _ ub (U_mod _) (by omega) (by omega)]
  clear hpq hp hq e1 u0 u1 v0 ub
  unfold U
  refine ⟨fun h => by omega, fun h => ⟨fun h2 => by omega, fun h2 => by omega⟩⟩
theorem mul_out {a b : Int} (h : 340282366920938463463374607431768211456 ≤ mag a * mag b) : ¬ R (a * b) := by
  have := sign_mul a b
  unfold R
  split at this <;> omega
theorem wev_mul {a b M : Int} (hM : M = mag a * mag b) : wev (if (!decide (a / 18446744073709551616 < 0) == decide (b / 18446744073709551616 < 0)) = true then -M else M) = wev (a * b) := by
  rw [neg_hi, neg_hi, hM]
  exact congrArg wev (sign_mul a b)
theorem big_mul {a b : Int} (ha : 0 < mag a / 18446744073709551616) (hb : 0 < mag b / 18446744073709551616) : 340282366920938463463374607431768211456 ≤ mag a * mag b := by
  have : 18446744073709551616 * 18446744073709551616 ≤ mag a * mag b := Int.mul_le_mul (by omega) (by omega) (by omega) (mag_nonneg a)
  omega
set_option maxHeartbeats 2000000 in
theorem wide_Mul (a b : Int) (ha : R a) (hb : R b) : PureF (C W0) I.wide_Mul [wv a, wv b] (wev (a * b)) := by
  refine PureF.E (CallP.of_body (C_ok W0) B.wide_Mul rfl rfl rfl ?_)
  have m1 := mag_R ha
  have m2 := mag_R hb
  have d1 := U_div (mag a) m1.1 (by omega)
  have d2 := U_div (mag b) m2.1 (by omega)
  have k1 := mulN (mag a) (mag b) m1.1 (by omega) m2.1
  have k2 := mulN (mag b) (mag a) m2.1 (by omega) m1.1
  rw [Int.mul_comm (mag b) (mag a)] at k2
  repeat' first
    | refine .inl ⟨_, wide_amount a ha, ?_⟩
    | refine .inl ⟨_, wide_amount b hb, ?_⟩
    | refine PureF.call (bits_Mul64 _ _ ?_ ?_) ?_
    | refine PureF.call (wide_signed2 _ _ ?_ ?_ _) ?_
    | exact U_mod _
    | assumption
    | refine wev_out (mul_out ?_)
    | (apply Here.norm; (first | dsimp only [Env.putR, argEnv, pure1, newPtr, applyE, hset, List.length_cons, List.length_nil, List.length_append, List.set, List.cons_append, List.nil_append] | rfl); (first | dsimp only [Env.putR, argEnv, pure1, newPtr, applyE, hset, List.length_cons, List.length_nil, List.length_append, List.set, List.cons_append, List.nil_append] | rfl))
    | refine brP.fD (by assumption) ?_
    | refine brP.introD (fun h => ?_) (fun h => ?_)
    | refine ⟨_, _, _, _, _, rfl, rfl, rfl, Fits.mk (by first | exact Nat.le_of_ble_eq_true rfl | (dsimp only; omega)), rfl, ?_⟩
    | refine ⟨_, _, _, _, _, rfl, _, rfl, ?_⟩
    | refine ⟨_, _, _, _, _, rfl, Fits.mk (by first | exact Nat.le_of_ble_eq_true rfl | (dsimp only; omega)), _, rfl, ?_⟩
    | refine draw_go (C_ok W0) (by kernel_rfl) ?_
    | refine ⟨cpt_ok (by kernel_rfl), ?_⟩
    | refine ⟨InB.mk (by first | decide | omega) (by first | decide | omega), ?_⟩
    | refine ⟨by decide, ?_⟩
    | refine ⟨_, rfl, ?_⟩
    | fail
  all_goals first
    | exact big_mul (by assumption) (by assumption)
    | exact (k1 (by assumption) _ _ rfl rfl).1 (by assumption)
    | exact ((k1 (by assumption) _ _ rfl rfl).2 (by assumption)).1 (by assumption)
    | exact (((k1 (by assumption) _ _ rfl rfl).2 (by assumption)).2 (by assumption)).1
    | exact wev_mul (((k1 (by assumption) _ _ rfl rfl).2 (by assumption)).2 (by assumption)).2
    | exact (k2 (by assumption) _ _ rfl rfl).1 (by assumption)
    | exact ((k2 (by assumption) _ _ rfl rfl).2 (by assumption)).1 (by assumption)
    | exact (((k2 (by assumption) _ _ rfl rfl).2 (by assumption)).2 (by assumption)).1
    | exact wev_mul (((k2 (by assumption) _ _ rfl rfl).2 (by assumption)).2 (by assumption)).2
end Go.Proofs.YtkocmbgpiidkdaaGreatDoor
