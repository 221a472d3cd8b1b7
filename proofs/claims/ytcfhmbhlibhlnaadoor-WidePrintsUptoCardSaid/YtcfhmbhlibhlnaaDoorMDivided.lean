/- Wide.divided. -/
import Derived.Test.YtcfhmbhlibhlnaaDoorMAmount
import Derived.Test.YtcfhmbhlibhlnaaDoorPxf65
namespace Go.Proofs.YtcfhmbhlibhlnaaDoor.MM
open Go.RowKit Go.Proofs.YtcfhmbhlibhlnaaDoor.P Go.Proofs.YtcfhmbhlibhlnaaDoorW.PrintWords Go.Proofs.YtcfhmbhlibhlnaaDoorW.PrintMore Go.Proofs.YtcfhmbhlibhlnaaDoor.Mine
set_option linter.unusedVariables false
set_option linter.unusedSimpArgs false

/-- What is left, doubled, with the next bit: its limbs. -/
theorem twice_limbs (r b : Int) (h0 : 0 ≤ r) (h1 : r < 340282366920938463463374607431768211456) (hb : b = 0 ∨ b = 1) :
    Go.bits .or .u64 (IntKind.u64.wrap (r % 18446744073709551616 * 2)) b = (2 * r + b) % 18446744073709551616 ∧
    Go.bits .or .u64 (IntKind.u64.wrap (r / 18446744073709551616 * 2)) (r % 18446744073709551616 / 9223372036854775808) = (2 * r + b) % 340282366920938463463374607431768211456 / 18446744073709551616 ∧
    r / 18446744073709551616 / 9223372036854775808 = (2 * r + b) / 340282366920938463463374607431768211456 := by
  rw [wrap_u64, wrap_u64, or_one _ _ (by omega) (by omega) (by omega) (by omega) (by omega), or_one _ _ (by omega) (by omega) (by omega) (by omega) (by omega)]
  omega
theorem less_limbs (s n : Int) (hn : 0 < n) (hn' : n < 340282366920938463463374607431768211456) (h : n ≤ s) (h' : s < 2 * n) :
    subLo (s % 18446744073709551616) (n % 18446744073709551616) 0 = (s - n) % 18446744073709551616 ∧
    subLo (s % 340282366920938463463374607431768211456 / 18446744073709551616) (n / 18446744073709551616) (subHi (s % 18446744073709551616) (n % 18446744073709551616) 0) = (s - n) / 18446744073709551616 := by
  have u0 := U_mod s
  have u1 := U_div (s % 340282366920938463463374607431768211456) (by omega) (by omega)
  have v0 := U_mod n
  have v1 := U_div n (by omega) hn'
  rw [subLo_is _ _ _ u0 v0 (by omega) (by omega), subLo_is _ _ _ u1 v1 (subHi_ge _ _ _) (subHi_le _ _ _), subHi_is _ _ _ u0 v0 (by omega) (by omega)]
  clear u0 u1 v0 v1
  refine ⟨by omega, ?_⟩
  split <;> omega
/-- The three tests of a round, as one. -/
theorem above_limbs (s n : Int) (h0 : 0 ≤ s) (h1 : s < 680564733841876926926749214863536422912) (hn : 0 < n) (hn' : n < 340282366920938463463374607431768211456) :
    (s / 340282366920938463463374607431768211456 = 1 → n ≤ s) ∧
    (¬ s / 340282366920938463463374607431768211456 = 1 → s % 340282366920938463463374607431768211456 / 18446744073709551616 > n / 18446744073709551616 → n ≤ s) ∧
    (¬ s / 340282366920938463463374607431768211456 = 1 → s % 340282366920938463463374607431768211456 / 18446744073709551616 = n / 18446744073709551616 → (s % 18446744073709551616 ≥ n % 18446744073709551616 ↔ n ≤ s)) ∧
    (¬ s / 340282366920938463463374607431768211456 = 1 → ¬ s % 340282366920938463463374607431768211456 / 18446744073709551616 > n / 18446744073709551616 → ¬ s % 340282366920938463463374607431768211456 / 18446744073709551616 = n / 18446744073709551616 → ¬ n ≤ s) := by
  refine ⟨fun _ => by omega, fun _ _ => by omega, fun _ _ => by omega, fun _ _ _ => by omega⟩
/-- The second half of a round of divided. -/
theorem divided_second (k : Nat) (A n r b : Int) (m : Nat) (R : Int × Int × Int × Int) (hm : m < 128) (hA : 0 ≤ A) (hA' : A < 340282366920938463463374607431768211456) (hn : 0 < n) (hn' : n < 340282366920938463463374607431768211456)
    (hb : b = A / 2 ^ m % 2) (hr : r = A / 2 ^ (m + 1) % n)
    (hK : wide_divided.l0 k ((m : Int) - 1) (A % 18446744073709551616) (A / 18446744073709551616) (n % 18446744073709551616) (n / 18446744073709551616)
      (A / 2 ^ m / n * 2 ^ m % 18446744073709551616) (A / 2 ^ m / n * 2 ^ m / 18446744073709551616) (A / 2 ^ m % n % 18446744073709551616) (A / 2 ^ m % n / 18446744073709551616) = some R) (c : Bool) (hc : c = decide (n ≤ 2 * r + b)) :
    wide_divided.j1 (k + 1) (m : Int) c (A % 18446744073709551616) (A / 18446744073709551616) (n % 18446744073709551616) (n / 18446744073709551616)
      (A / 2 ^ (m + 1) / n * 2 ^ (m + 1) % 18446744073709551616) (A / 2 ^ (m + 1) / n * 2 ^ (m + 1) / 18446744073709551616) ((2 * r + b) % 18446744073709551616) ((2 * r + b) % 340282366920938463463374607431768211456 / 18446744073709551616) = some R := by
  have hr0 := Int.emod_nonneg (A / 2 ^ (m + 1)) (show n ≠ 0 by omega)
  have hr1 := Int.emod_lt_of_pos (A / 2 ^ (m + 1)) hn
  obtain ⟨q0, q1, qd⟩ := quo_room A n m hA hA' hn
  obtain ⟨nl, ng⟩ := quo_next A n m hA hn b hb
  rw [← hr] at hr0 hr1 nl ng
  have hb0 : b = 0 ∨ b = 1 := by rw [hb]; omega
  have hnext : wrap64 ((m : Int) - 1) = (m : Int) - 1 := by clear hK; unfold wrap64; omega
  simp only [wide_divided.j1]
  by_cases g : n ≤ 2 * r + b
  · obtain ⟨e2, e3⟩ := ng g
    obtain ⟨lo, hi'⟩ := less_limbs (2 * r + b) n hn hn' g (by omega)
    rw [hc, decide_eq_true g, if_pos rfl, if_pos (subHi_le _ _ _), lo, hi', tdiv_at m hm, tmod_at, hnext, shl_one _ (by omega) (by omega), Int.toNat_natCast, ← e2]
    by_cases c6 : 64 ≤ m
    · obtain ⟨s1, s2⟩ := set_high _ m c6 hm q0 q1 qd
      rw [if_neg (by omega), if_pos (by omega), if_pos (by omega), show m % 64 = m - 64 by omega, s1, s2, ← e3]
      exact hK
    · obtain ⟨s1, s2⟩ := set_low _ m (by omega) q0 qd
      rw [if_pos (by omega), if_pos (by omega), show m % 64 = m by omega, s1, s2, ← e3]
      exact hK
  · obtain ⟨e2, e3⟩ := nl (by omega)
    have hlt : 2 * r + b < n := by omega
    rw [hc, decide_eq_false g, if_neg (by decide), hnext, ← e2, ← e3, Int.emod_eq_of_lt (a := A / 2 ^ m % n) (b := 340282366920938463463374607431768211456) (by rw [e2]; omega) (by rw [e2]; omega)]
    exact hK
theorem j2_is_j1 (k : Nat) (x8 : Int) (x64 : Bool) (a0 a1 b0 b1 c0 c1 d0 d1 : Int) : wide_divided.j2 (k + 1) x8 x64 a0 a1 b0 b1 c0 c1 d0 d1 = wide_divided.j1 (k + 1) x8 x64 a0 a1 b0 b1 c0 c1 d0 d1 := by
  simp only [wide_divided.j1, wide_divided.j2]
/-- divided, from the round of bit m - 1 on: the limbs of A, of n; of the quotient so far and of what is left so far. -/
theorem divided_from (A n : Int) (hA : 0 ≤ A) (hA' : A < 340282366920938463463374607431768211456) (hn : 0 < n) (hn' : n < 340282366920938463463374607431768211456) (m : Nat) : m ≤ 128 →
    Ev (fun k => wide_divided.l0 k ((m : Int) - 1) (A % 18446744073709551616) (A / 18446744073709551616) (n % 18446744073709551616) (n / 18446744073709551616)
      (A / 2 ^ m / n * 2 ^ m % 18446744073709551616) (A / 2 ^ m / n * 2 ^ m / 18446744073709551616) (A / 2 ^ m % n % 18446744073709551616) (A / 2 ^ m % n / 18446744073709551616))
      (A / n % 18446744073709551616, A / n / 18446744073709551616, A % n % 18446744073709551616, A % n / 18446744073709551616) := by
  induction m with
  | zero =>
    intro _
    refine ⟨1, fun k hk => ?_⟩
    obtain ⟨k, rfl⟩ : ∃ j, k = j + 1 := ⟨k - 1, by omega⟩
    simp only [wide_divided.l0]
    rw [if_neg (by decide), Int.pow_zero, Int.ediv_one, Int.mul_one]
  | succ m ih =>
    intro hm
    obtain ⟨K, hK⟩ := ih (by omega)
    refine ⟨K + 2, fun k hk => ?_⟩
    obtain ⟨k, rfl⟩ : ∃ j, k = j + 2 := ⟨k - 2, by omega⟩
    have hi : (((m + 1 : Nat) : Int) - 1) = m := by omega
    have sec := divided_second k A n _ _ m _ (by omega) hA hA' hn hn' rfl rfl (hK k (by omega))
    have hr0 := Int.emod_nonneg (A / 2 ^ (m + 1)) (show n ≠ 0 by omega)
    have hr1 := Int.emod_lt_of_pos (A / 2 ^ (m + 1)) hn
    have hb : A / 2 ^ m % 2 = 0 ∨ A / 2 ^ m % 2 = 1 := by clear sec hr0 hr1; omega
    obtain ⟨l1, l2, l3⟩ := twice_limbs (A / 2 ^ (m + 1) % n) (A / 2 ^ m % 2) hr0 (Int.lt_trans hr1 hn') hb
    obtain ⟨t1, t2, t3, t4⟩ := above_limbs (2 * (A / 2 ^ (m + 1) % n) + A / 2 ^ m % 2) n (by clear sec l1 l2 l3; omega) (by clear sec l1 l2 l3; omega) hn hn'
    clear hK ih
    show wide_divided.l0 (k + 2) _ _ _ _ _ _ _ _ _ = _
    simp only [wide_divided.l0]
    rw [hi, if_pos (by clear sec l1 l2 l3 t1 t2 t3 t4; omega), tdiv_at m (by omega), tmod_at]
    by_cases c6 : 64 ≤ m
    · rw [if_neg (by clear sec l1 l2 l3 t1 t2 t3 t4; omega), if_pos (by clear sec l1 l2 l3 t1 t2 t3 t4; omega), if_pos (by clear sec l1 l2 l3 t1 t2 t3 t4; omega), bit_high A m hA hA' c6 (by omega), l1, l2, l3]
      simp only [j2_is_j1]
      split
      · exact sec _ (decide_eq_true (t1 ‹_›)).symm
      · split
        · exact sec _ (decide_eq_true (t2 ‹_› ‹_›)).symm
        · split
          · exact sec _ (decide_eq_decide.2 (t3 ‹_› ‹_›))
          · exact sec _ (decide_eq_false (t4 ‹_› ‹_› ‹_›)).symm
    · rw [if_pos (by clear sec l1 l2 l3 t1 t2 t3 t4; omega), if_pos (by clear sec l1 l2 l3 t1 t2 t3 t4; omega), bit_low A m (by omega), l1, l2, l3]
      split
      · exact sec _ (decide_eq_true (t1 ‹_›)).symm
      · split
        · exact sec _ (decide_eq_true (t2 ‹_› ‹_›)).symm
        · split
          · exact sec _ (decide_eq_decide.2 (t3 ‹_› ‹_›))
          · exact sec _ (decide_eq_false (t4 ‹_› ‹_› ‹_›)).symm
theorem divided_is (A n : Int) (hA : 0 ≤ A) (hA' : A < 340282366920938463463374607431768211456) (hn : 0 < n) (hn' : n < 340282366920938463463374607431768211456) :
    Ev (fun k => wide_divided.f k (A % 18446744073709551616) (A / 18446744073709551616) (n % 18446744073709551616) (n / 18446744073709551616))
      (A / n % 18446744073709551616, A / n / 18446744073709551616, A % n % 18446744073709551616, A % n / 18446744073709551616) := by
  have e := divided_from A n hA hA' hn hn' 128 (by omega)
  have z : A / 2 ^ 128 = 0 := by
    rw [show (2 : Int) ^ 128 = 340282366920938463463374607431768211456 by decide]; omega
  rw [z] at e
  simp only [Int.zero_emod, Int.zero_ediv, Int.zero_mul] at e
  exact e
end Go.Proofs.YtcfhmbhlibhlnaaDoor.MM
