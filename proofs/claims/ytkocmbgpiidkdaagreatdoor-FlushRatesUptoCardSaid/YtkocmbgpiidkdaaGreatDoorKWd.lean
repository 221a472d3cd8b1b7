import Derived.Test.YtkocmbgpiidkdaaGreatDoorKWb
set_option linter.unusedVariables false
set_option linter.unusedSimpArgs false
namespace Go.Proofs.YtkocmbgpiidkdaaGreatDoor
open Go Go.Den
variable {W0 : World}
/-- What is left, doubled, with the next bit: its limbs. -/
theorem twice_limbs (r b : Int) (h0 : 0 ≤ r) (h1 : r < 340282366920938463463374607431768211456) (hb : b = 0 ∨ b = 1) :
    Go.bits .or .u64 (IntKind.u64.wrap (r % 18446744073709551616 * 2)) b = (2 * r + b) % 18446744073709551616 ∧
    Go.bits .or .u64 (IntKind.u64.wrap (r / 18446744073709551616 * 2)) (r % 18446744073709551616 / 9223372036854775808) = (2 * r + b) % 340282366920938463463374607431768211456 / 18446744073709551616 ∧
    r / 18446744073709551616 / 9223372036854775808 = (2 * r + b) / 340282366920938463463374607431768211456 := by
  rw [wrap_u64, wrap_u64, or_one _ _ (by omega) (by omega) (by omega) (by omega) (by omega), or_one _ _ (by omega) (by omega) (by omega) (by omega) (by omega)]
  omega
theorem less_limbs (s n : Int) (hn : 0 < n) (hn' : n < 340282366920938463463374607431768211456) (h : n ≤ s) (h' : s < 2 * n) :
    subLo (s % 18446744073709551616) (n % 18446744073709551616) 0 = (s - n) % 18446744073709551616 ∧
    subLo (s % 340282366920938463463374607431768211456 / 18446744073709551616) (n / 18446744073709551616) (subHi (s % 18446744073709551616) (n % 18446744073709551616) 0) = (s - n) / 18446744073709551616 := by
  have u0 := U_mod s
  have u1 := U_div (s % 340282366920938463463374607431768211456) (by omega) (by omega)
  have v0 := U_mod n
  have v1 := U_div n (by omega) hn'
  rw [subLo_is _ _ _ u0 v0 (by omega) (by omega), subLo_is _ _ _ u1 v1 (subHi_ge _ _ _) (subHi_le _ _ _), subHi_is _ _ _ u0 v0 (by omega) (by omega)]
  clear u0 u1 v0 v1
  refine ⟨by omega, ?_⟩
  split <;> omega
/-- The three tests of a round, as one. -/
theorem above_limbs (s n : Int) (h0 : 0 ≤ s) (h1 : s < 680564733841876926926749214863536422912) (hn : 0 < n) (hn' : n < 340282366920938463463374607431768211456) :
    (s / 340282366920938463463374607431768211456 = 1 → n ≤ s) ∧
    (¬ s / 340282366920938463463374607431768211456 = 1 → s % 340282366920938463463374607431768211456 / 18446744073709551616 > n / 18446744073709551616 → n ≤ s) ∧
    (¬ s / 340282366920938463463374607431768211456 = 1 → s % 340282366920938463463374607431768211456 / 18446744073709551616 = n / 18446744073709551616 → (s % 18446744073709551616 ≥ n % 18446744073709551616 ↔ n ≤ s)) ∧
    (¬ s / 340282366920938463463374607431768211456 = 1 → ¬ s % 340282366920938463463374607431768211456 / 18446744073709551616 > n / 18446744073709551616 → ¬ s % 340282366920938463463374607431768211456 / 18446744073709551616 = n / 18446744073709551616 → ¬ n ≤ s) := by
  refine ⟨fun _ => by omega, fun _ _ => by omega, fun _ _ => by omega, fun _ _ _ => by omega⟩
theorem shlV1 (x : Int) : shlV .u64 x 1 = IntKind.u64.wrap (x * 2) := rfl
theorem shr63u (x : Int) : shrV .u64 x 63 = x / 9223372036854775808 := by
  rw [shr_at x 63 (by decide) (by decide)]; rfl
theorem lim2 {a b c d : Int} {t : TypeId} (h1 : a = c) (h2 : b = d) : ABlk.cells [.int .u64 a, .int .u64 b] 1 true false t = ABlk.cells [.int .u64 c, .int .u64 d] 1 true false t := by rw [h1, h2]
theorem cons6 {b0 b1 b2 b3 a4 a5 b4 b5 : ABlk} (h4 : a4 = b4) (h5 : a5 = b5) : [b0, b1, b2, b3, a4, a5] = [b0, b1, b2, b3, b4, b5] ++ [] := by rw [h4, h5]; rfl
/-- A round: the three tests, and what is stored. -/
theorem round_math (A n : Int) (k : Nat) (hk : k < 128) (hA : 0 ≤ A) (hA' : A < 340282366920938463463374607431768211456) (hn : 0 < n) (hn' : n < 340282366920938463463374607431768211456) (r S : Int) (hr : r = A / 2 ^ (k + 1) % n) (hS : S = 2 * r + A / 2 ^ k % 2) :
    (0 ≤ S ∧ S < 680564733841876926926749214863536422912) ∧ (¬ n ≤ S → A / 2 ^ k % n = S ∧ A / 2 ^ k / n * 2 ^ k = A / 2 ^ (k + 1) / n * 2 ^ (k + 1) ∧ S < 340282366920938463463374607431768211456) ∧
    (n ≤ S → A / 2 ^ k % n = S - n ∧ A / 2 ^ k / n * 2 ^ k = A / 2 ^ (k + 1) / n * 2 ^ (k + 1) + 2 ^ k ∧ S < 2 * n) := by
  have hr0 := Int.emod_nonneg (A / 2 ^ (k + 1)) (show n ≠ 0 by omega)
  have hr1 := Int.emod_lt_of_pos (A / 2 ^ (k + 1)) hn
  obtain ⟨nl, ng⟩ := quo_next A n k hA hn _ rfl
  rw [← hr] at hr0 hr1 nl ng
  rw [← hS] at nl ng
  have hb : A / 2 ^ k % 2 = 0 ∨ A / 2 ^ k % 2 = 1 := by omega
  refine ⟨by omega, fun h => ?_, fun h => ?_⟩
  · obtain ⟨e1, e2⟩ := nl (by omega); exact ⟨e1, e2, by omega⟩
  · obtain ⟨e1, e2⟩ := ng h; exact ⟨e1, e2, by omega⟩
/-- What a round leaves, where the divisor goes in. -/
theorem yes_low (n S Q q' r' : Int) (k : Nat) (c : k < 64) (hn : 0 < n) (hn' : n < 340282366920938463463374607431768211456) (q0 : 0 ≤ Q) (qd : Q % 2 ^ (k + 1) = 0) (hle : n ≤ S) (M : r' = S - n ∧ q' = Q + 2 ^ k ∧ S < 2 * n) :
    Go.bits .or .u64 (Q % 18446744073709551616) (shlV .u64 1 (IntKind.u64.wrap ((k : Int).tmod 64))) = q' % 18446744073709551616 ∧ Q / 18446744073709551616 = q' / 18446744073709551616 ∧
    subLo (S % 18446744073709551616) (n % 18446744073709551616) 0 = r' % 18446744073709551616 ∧
    subLo (S % 340282366920938463463374607431768211456 / 18446744073709551616) (n / 18446744073709551616) (subHi (S % 18446744073709551616) (n % 18446744073709551616) 0) = r' / 18446744073709551616 := by
  obtain ⟨rfl, rfl, m3⟩ := M
  obtain ⟨l1, l2⟩ := less_limbs S n hn hn' hle m3
  obtain ⟨s1, s2⟩ := set_low Q k c q0 qd
  rw [tmod_at, shl_one _ (by omega) (by omega), Int.toNat_natCast, show k % 64 = k by omega]
  exact ⟨s1, s2, l1, l2⟩
theorem yes_high (n S Q q' r' : Int) (k : Nat) (c : 64 ≤ k) (hk : k < 128) (hn : 0 < n) (hn' : n < 340282366920938463463374607431768211456) (q0 : 0 ≤ Q) (q1 : Q < 340282366920938463463374607431768211456) (qd : Q % 2 ^ (k + 1) = 0) (hle : n ≤ S) (M : r' = S - n ∧ q' = Q + 2 ^ k ∧ S < 2 * n) :
    Q % 18446744073709551616 = q' % 18446744073709551616 ∧ Go.bits .or .u64 (Q / 18446744073709551616) (shlV .u64 1 (IntKind.u64.wrap ((k : Int).tmod 64))) = q' / 18446744073709551616 ∧
    subLo (S % 18446744073709551616) (n % 18446744073709551616) 0 = r' % 18446744073709551616 ∧
    subLo (S % 340282366920938463463374607431768211456 / 18446744073709551616) (n / 18446744073709551616) (subHi (S % 18446744073709551616) (n % 18446744073709551616) 0) = r' / 18446744073709551616 := by
  obtain ⟨rfl, rfl, m3⟩ := M
  obtain ⟨l1, l2⟩ := less_limbs S n hn hn' hle m3
  obtain ⟨s1, s2⟩ := set_high Q k c hk q0 q1 qd
  rw [tmod_at, shl_one _ (by omega) (by omega), Int.toNat_natCast, show k % 64 = k - 64 by omega]
  exact ⟨s2, s1, l1, l2⟩
theorem no_round (S Q q' r' : Int) (M : r' = S ∧ q' = Q ∧ S < 340282366920938463463374607431768211456) (h0 : 0 ≤ S) :
    Q % 18446744073709551616 = q' % 18446744073709551616 ∧ Q / 18446744073709551616 = q' / 18446744073709551616 ∧ S % 18446744073709551616 = r' % 18446744073709551616 ∧ S % 340282366920938463463374607431768211456 / 18446744073709551616 = r' / 18446744073709551616 := by
  obtain ⟨rfl, rfl, m3⟩ := M
  refine ⟨rfl, rfl, rfl, by omega⟩
set_option maxHeartbeats 8000000 in
theorem wide_divided (A n : Int) (hA : 0 ≤ A) (hA' : A < 340282366920938463463374607431768211456) (hn : 0 < n) (hn' : n < 340282366920938463463374607431768211456) :
    PureF (C W0) I.wide_divided [av A, av n] (.tuple #[av (A / n), av (A % n)]) := by
  refine PureF.E (CallP.of_body (C_ok W0) B.wide_divided rfl rfl rfl ?_)
  repeat' first
    | (apply Here.norm; (first | dsimp only [Env.putR, argEnv, pure1, newPtr, applyE, hset, List.length_cons, List.length_nil, List.length_append, List.set, List.cons_append, List.nil_append] | rfl); (first | dsimp only [Env.putR, argEnv, pure1, newPtr, applyE, hset, List.length_cons, List.length_nil, List.length_append, List.set, List.cons_append, List.nil_append] | rfl))
    | fail
  refine loop_go (C_ok W0) (fun m : Fin 129 => [(2, .pointer (some ⟨0, 0, none⟩)), (3, .pointer (some ⟨1, 0, none⟩)), (4, .pointer (some ⟨2, 0, none⟩)), (5, .pointer (some ⟨3, 0, none⟩)), (6, .pointer (some ⟨4, 0, none⟩)), (7, .pointer (some ⟨5, 0, none⟩)), (8, .int .i64 ((m.val : Int) - 1))])
    (fun m => [.cells (av A).cells.toList 1 true false Y.wide_limbs, .cells (av n).cells.toList 1 true false Y.wide_limbs, .cells (av 0).cells.toList 1 true false Y.wide_limbs, .cells (av 0).cells.toList 1 true false Y.wide_limbs,
      .cells (av (A / 2 ^ m.val / n * 2 ^ m.val)).cells.toList 1 true false Y.wide_limbs, .cells (av (A / 2 ^ m.val % n)).cells.toList 1 true false Y.wide_limbs]) (fun m => m.val) ⟨128, by decide⟩ ?_ ?_
  · have e : A / 2 ^ 128 = 0 := Int.ediv_eq_zero_of_lt hA hA'
    refine ⟨_, rfl, RT.of_eq rfl ?_⟩
    show _ = [_, _, _, _, ABlk.cells [.int .u64 (A / 2 ^ 128 / n * 2 ^ 128 % 18446744073709551616), .int .u64 (A / 2 ^ 128 / n * 2 ^ 128 / 18446744073709551616)] 1 true false Y.wide_limbs,
      ABlk.cells [.int .u64 (A / 2 ^ 128 % n % 18446744073709551616), .int .u64 (A / 2 ^ 128 % n / 18446744073709551616)] 1 true false Y.wide_limbs]
    rw [e, Int.zero_emod, Int.zero_ediv, Int.zero_mul]
    rfl
  · rintro ⟨m, hm⟩
    cases m with
    | zero =>
      repeat' first
        | (apply Here.norm; (first | dsimp only [Env.putR, argEnv, pure1, newPtr, applyE, hset, List.length_cons, List.length_nil, List.length_append, List.set, List.cons_append, List.nil_append] | rfl); (first | dsimp only [Env.putR, argEnv, pure1, newPtr, applyE, hset, List.length_cons, List.length_nil, List.length_append, List.set, List.cons_append, List.nil_append] | rfl))
        | refine ⟨_, _, _, _, _, rfl, rfl, rfl, Fits.mk (by first | exact Nat.le_of_ble_eq_true rfl | (dsimp only; omega)), rfl, ?_⟩
        | refine ⟨_, _, _, _, _, rfl, Fits.mk (by first | exact Nat.le_of_ble_eq_true rfl | (dsimp only; omega)), _, rfl, ?_⟩
        | refine draw_go (C_ok W0) (by kernel_rfl) ?_
        | refine ⟨cpt_ok (by kernel_rfl), ?_⟩
        | fail
      · have e : A / 2 ^ (0 : Nat) = A := by simp
        show Value.tuple #[av (A / 2 ^ (0 : Nat) / n * 2 ^ (0 : Nat)), av (A / 2 ^ (0 : Nat) % n)] = _
        rw [e, Int.pow_zero, Int.mul_one]
    | succ k =>
      have hk : k < 128 := by omega
      have hk1 : ((k + 1 : Nat) : Int) - 1 = (k : Int) := by omega
      have hnext : IntKind.i64.wrap ((k : Int) - 1) = (k : Int) - 1 := by rw [wr_i64]; omega
      have M := round_math A n k hk hA hA' hn hn' _ _ rfl rfl
      dsimp only
      rw [hk1]
      have hq := tdiv_at k hk
      have hr := tmod_at k
      have r0 := Int.emod_nonneg (A / 2 ^ (k + 1)) (show n ≠ 0 by omega)
      have r1 := Int.emod_lt_of_pos (A / 2 ^ (k + 1)) hn
      obtain ⟨q0, q1, qd⟩ := quo_room A n k hA hA' hn
      generalize A / 2 ^ (k + 1) % n = r at *
      generalize A / 2 ^ (k + 1) / n * 2 ^ (k + 1) = Q at *
      obtain ⟨T1, T2, T0⟩ := twice_limbs r (A / 2 ^ k % 2) r0 (by omega) (by omega)
      rw [← shlV1] at T1
      rw [← shlV1, ← shr63u] at T2
      rw [← shr63u] at T0
      generalize 2 * r + A / 2 ^ k % 2 = S at *
      obtain ⟨⟨M0, M1⟩, Mn, My⟩ := M
      have fin : ∀ {b0 b1 b2 b3 : ABlk} {a4 a5 a6 a7 : Int}, (a4 = A / 2 ^ k / n * 2 ^ k % 18446744073709551616 ∧ a5 = A / 2 ^ k / n * 2 ^ k / 18446744073709551616 ∧ a6 = A / 2 ^ k % n % 18446744073709551616 ∧ a7 = A / 2 ^ k % n / 18446744073709551616) →
          [b0, b1, b2, b3, ABlk.cells [.int .u64 a4, .int .u64 a5] 1 true false Y.wide_limbs, ABlk.cells [.int .u64 a6, .int .u64 a7] 1 true false Y.wide_limbs] =
          [b0, b1, b2, b3, .cells (av (A / 2 ^ k / n * 2 ^ k)).cells.toList 1 true false Y.wide_limbs, .cells (av (A / 2 ^ k % n)).cells.toList 1 true false Y.wide_limbs] :=
        fun h => cons6 (lim2 h.1 h.2.1) (lim2 h.2.2.1 h.2.2.2)
      rcases Nat.lt_or_ge k 64 with c | c
      · have hq0 : IntKind.i64.wrap ((k : Int).tdiv 64) = 0 := by rw [hq]; omega
        rw [← bit_low A k c, ← hr] at T1
        have yes := fun h => yes_low n S Q _ _ k c hn hn' q0 qd h (My h)
        have no := fun h => no_round S Q _ _ (Mn h) M0
        clear My Mn
        repeat' first
          | refine ⟨ShB.mk (by rw [hr]; omega), ?_⟩
          | refine ⟨InB.mk (by rw [hq0]; omega) (by rw [hq0]; omega), ?_⟩
          | rw [hq0]
          | rw [T1]
          | rw [T2]
          | rw [T0]
          | (apply Here.norm; (first | dsimp only [Env.putR, argEnv, pure1, newPtr, applyE, hset, List.length_cons, List.length_nil, List.length_append, List.set, List.cons_append, List.nil_append] | rfl); (first | dsimp only [Env.putR, argEnv, pure1, newPtr, applyE, hset, List.length_cons, List.length_nil, List.length_append, List.set, List.cons_append, List.nil_append] | rfl))
          | refine brP.introD (fun h => ?_) (fun h => ?_)
          | refine ⟨_, _, _, _, _, rfl, rfl, rfl, Fits.mk (by first | exact Nat.le_of_ble_eq_true rfl | (dsimp only; omega)), rfl, ?_⟩
          | refine ⟨_, _, _, _, _, rfl, _, rfl, ?_⟩
          | refine draw_go (C_ok W0) (by kernel_rfl) ?_
          | refine ⟨cpt_ok (by kernel_rfl), ?_⟩
          | refine ⟨InB.mk (by first | decide | omega) (by first | decide | omega), ?_⟩
          | refine ⟨ShB.mk (by first | decide | omega), ?_⟩
          | refine ⟨NzB.mk (by first | decide | omega), ?_⟩
          | refine ⟨by decide, ?_⟩
          | refine ⟨subHi_le _ _ _, ?_⟩
          | refine ⟨_, rfl, ?_⟩
          | fail
        all_goals (refine ⟨⟨k, by omega⟩, Nat.lt_succ_self k, _, rfl, RT.of_eq (by rw [hnext]; rfl) ?_⟩)
        all_goals (first | exact fin (yes (by omega)) | exact fin (no (by omega)))
      · have hq0 : IntKind.i64.wrap ((k : Int).tdiv 64) = 1 := by rw [hq]; omega
        rw [← bit_high A k hA hA' c hk, ← hr] at T1
        have yes := fun h => yes_high n S Q _ _ k c hk hn hn' q0 q1 qd h (My h)
        have no := fun h => no_round S Q _ _ (Mn h) M0
        clear My Mn
        repeat' first
          | refine ⟨ShB.mk (by rw [hr]; omega), ?_⟩
          | refine ⟨InB.mk (by rw [hq0]; omega) (by rw [hq0]; omega), ?_⟩
          | rw [hq0]
          | rw [T1]
          | rw [T2]
          | rw [T0]
          | (apply Here.norm; (first | dsimp only [Env.putR, argEnv, pure1, newPtr, applyE, hset, List.length_cons, List.length_nil, List.length_append, List.set, List.cons_append, List.nil_append] | rfl); (first | dsimp only [Env.putR, argEnv, pure1, newPtr, applyE, hset, List.length_cons, List.length_nil, List.length_append, List.set, List.cons_append, List.nil_append] | rfl))
          | refine brP.introD (fun h => ?_) (fun h => ?_)
          | refine ⟨_, _, _, _, _, rfl, rfl, rfl, Fits.mk (by first | exact Nat.le_of_ble_eq_true rfl | (dsimp only; omega)), rfl, ?_⟩
          | refine ⟨_, _, _, _, _, rfl, _, rfl, ?_⟩
          | refine draw_go (C_ok W0) (by kernel_rfl) ?_
          | refine ⟨cpt_ok (by kernel_rfl), ?_⟩
          | refine ⟨InB.mk (by first | decide | omega) (by first | decide | omega), ?_⟩
          | refine ⟨ShB.mk (by first | decide | omega), ?_⟩
          | refine ⟨NzB.mk (by first | decide | omega), ?_⟩
          | refine ⟨by decide, ?_⟩
          | refine ⟨subHi_le _ _ _, ?_⟩
          | refine ⟨_, rfl, ?_⟩
          | fail
        all_goals (refine ⟨⟨k, by omega⟩, Nat.lt_succ_self k, _, rfl, RT.of_eq (by rw [hnext]; rfl) ?_⟩)
        all_goals (first | exact fin (yes (by omega)) | exact fin (no (by omega)))
end Go.Proofs.YtkocmbgpiidkdaaGreatDoor
