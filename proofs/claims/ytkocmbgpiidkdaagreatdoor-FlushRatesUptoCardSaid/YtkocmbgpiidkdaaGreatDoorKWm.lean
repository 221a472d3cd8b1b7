import Derived.Test.YtkocmbgpiidkdaaGreatDoorKSa
import Derived.Lib.SmallJoins
set_option linter.unusedVariables false
set_option linter.unusedSimpArgs false
namespace Go.Proofs.YtkocmbgpiidkdaaGreatDoor
open Go Go.Den Go.RowKit
def R (v : Int) : Prop := -170141183460469231731687303715884105728 ≤ v ∧ v < 170141183460469231731687303715884105728
def Hi (v : Int) : Prop := -9223372036854775808 ≤ v ∧ v ≤ 9223372036854775807
def U (v : Int) : Prop := 0 ≤ v ∧ v < 18446744073709551616
instance (v : Int) : Decidable (Hi v) := by unfold Hi; infer_instance
instance (v : Int) : Decidable (R v) := by unfold R; infer_instance
theorem U_mod (x : Int) : U (x % 18446744073709551616) := by unfold U; omega
theorem U_div (x : Int) (h : 0 ≤ x) (h' : x < 340282366920938463463374607431768211456) : U (x / 18446744073709551616) := by unfold U; omega
theorem wr_i64 (n : Int) : IntKind.i64.wrap n = (n + 9223372036854775808) % 18446744073709551616 - 9223372036854775808 := by
  simp only [IntKind.wrap, IntKind.bits, IntKind.signed, Bool.true_and]
  by_cases h : n % 18446744073709551616 ≥ 9223372036854775808
  · rw [if_pos (by simpa using h)]; omega
  · rw [if_neg (by simpa using h)]; omega
theorem wrap_u64 (n : Int) : IntKind.u64.wrap n = n % 18446744073709551616 := by simp [IntKind.wrap, IntKind.bits, IntKind.signed]
theorem wraps_u64 (n : Int) (h₀ : 0 ≤ n) (h₁ : n < 2 ^ 64) : IntKind.u64.wrap n = n := by rw [wrap_u64]; omega
theorem and_one (x : Int) (h0 : 0 ≤ x) (h1 : x < 18446744073709551616) : Go.bits .and .u64 x 1 = x % 2 :=
  bits_mask .u64 64 (by decide) wraps_u64 1 (by decide) x h0 (by simpa using h1)
theorem and_low (x : Int) (h0 : 0 ≤ x) (h1 : x < 18446744073709551616) : Go.bits .and .u64 x 4294967295 = x % 4294967296 :=
  bits_mask .u64 64 (by decide) wraps_u64 32 (by decide) x h0 (by simpa using h1)
theorem or_one (x y : Int) (h0 : 0 ≤ x) (h1 : x < 18446744073709551616) (h2 : x % 2 = 0) (h3 : 0 ≤ y) (h4 : y < 2) : Go.bits .or .u64 x y = x + y :=
  bits_join .u64 64 (by decide) wraps_u64 1 x y h0 (by simpa using h2) (by simpa using h1) h3 (by simpa using h4) (by simp; omega)
theorem two_lt (j : Nat) : (2 : Int) ^ j < 2 ^ (j + 1) := by
  have hz : (0 : Int) < 2 ^ j := Int.pow_pos (by decide)
  rw [Int.pow_succ]; omega
theorem two_le {j i : Nat} (h : j ≤ i) : (2 : Int) ^ j ≤ 2 ^ i := by
  have h : (2 : Nat) ^ j ≤ 2 ^ i := Nat.pow_le_pow_right (by decide) h
  exact_mod_cast h
theorem or_bit (x : Int) (j : Nat) (hj : j < 64) (h0 : 0 ≤ x) (h1 : x < 18446744073709551616) (h2 : x % 2 ^ (j + 1) = 0) : Go.bits .or .u64 x (2 ^ j) = x + 2 ^ j := by
  have hp := two_lt j
  have hq : (2 : Int) ^ (j + 1) ≤ 2 ^ 64 := two_le (by omega)
  have hz : (0 : Int) < 2 ^ j := Int.pow_pos (by decide)
  exact bits_join .u64 64 (by decide) wraps_u64 (j + 1) x (2 ^ j) h0 h2 (by simpa using h1) (Int.le_of_lt hz) hp (by omega)
theorem xor_all (x : Int) (h0 : 0 ≤ x) (h1 : x < 18446744073709551616) : Go.bits .xor .u64 18446744073709551615 x = 18446744073709551615 - x := by
  obtain ⟨a, rfl⟩ := Int.eq_ofNat_of_zero_le h0
  have ha : a < 2 ^ 64 := by omega
  have e : (BitVec.ofInt 64 18446744073709551615) ^^^ (BitVec.ofInt 64 (a : Int)) = ~~~ (BitVec.ofNat 64 a) := by
    rw [BitVec.ofInt_natCast, show BitVec.ofInt 64 18446744073709551615 = BitVec.allOnes 64 by decide, BitVec.allOnes_xor]
  show IntKind.u64.wrap (((BitVec.ofInt 64 18446744073709551615) ^^^ (BitVec.ofInt 64 (a : Int))).toNat : Int) = _
  rw [e, BitVec.toNat_not, BitVec.toNat_ofNat, Nat.mod_eq_of_lt ha, wrap_u64]
  omega
theorem shl_one (i : Int) (h0 : 0 ≤ i) (h1 : i < 64) : shlV .u64 1 i = 2 ^ i.toNat := by
  have e : min i.toNat (IntKind.u64.bits) = i.toNat := by show min i.toNat 64 = _; omega
  unfold shlV; rw [e, Int.one_mul]
  apply wraps_u64 _ (Int.le_of_lt (Int.pow_pos (by decide)))
  have h : (2 : Nat) ^ i.toNat < 2 ^ 64 := Nat.pow_lt_pow_right (by decide) (by omega)
  exact_mod_cast h
theorem shr_at (x i : Int) (h0 : 0 ≤ i) (h1 : i < 64) : shrV .u64 x i = x / 2 ^ i.toNat := by
  have e : min i.toNat (IntKind.u64.bits) = i.toNat := by show min i.toNat 64 = _; omega
  unfold shrV; rw [e]; exact Int.fdiv_eq_ediv_of_nonneg _ (Int.le_of_lt (Int.pow_pos (by decide)))
def mag (v : Int) : Int := if v < 0 then -v else v
theorem mag_pos {v : Int} (h : 0 ≤ v) : mag v = v := if_neg (by omega)
theorem mag_neg {v : Int} (h : v < 0) : mag v = -v := if_pos h
theorem mag_nonneg (v : Int) : 0 ≤ mag v := by unfold mag; split <;> omega
theorem two_pos (j : Nat) : (0 : Int) < 2 ^ j := Int.pow_pos (by decide)
theorem halve (n : Int) (j : Nat) : n / 2 ^ (j + 1) = n / 2 ^ j / 2 := by
  rw [Int.pow_succ, ← Int.ediv_ediv_of_nonneg (Int.le_of_lt (two_pos j))]
theorem two_split (n : Int) (j : Nat) : n / 2 ^ j = 2 * (n / 2 ^ (j + 1)) + n / 2 ^ j % 2 := by
  rw [halve]; omega
theorem two_add (a b : Nat) : (2 : Int) ^ (a + b) = 2 ^ a * 2 ^ b := Int.pow_add 2 a b
theorem low_bit (A : Int) (j : Nat) (hj : j < 64) : A % 18446744073709551616 / 2 ^ j % 2 = A / 2 ^ j % 2 := by
  have e : (18446744073709551616 : Int) = 2 ^ j * (2 ^ (63 - j) * 2) := by
    rw [← Int.pow_succ, ← two_add, show j + (63 - j + 1) = 64 by omega]; rfl
  have h := Int.emod_add_mul_ediv A 18446744073709551616
  have k : A / 2 ^ j = A % 18446744073709551616 / 2 ^ j + 2 ^ (63 - j) * 2 * (A / 18446744073709551616) := by
    have h' : A = A % 18446744073709551616 + (2 ^ (63 - j) * 2 * (A / 18446744073709551616)) * 2 ^ j := by
      rw [Int.mul_comm _ ((2 : Int) ^ j), ← Int.mul_assoc ((2 : Int) ^ j), ← e]; exact h.symm
    conv => lhs; rw [h']
    rw [Int.add_mul_ediv_right _ _ (by have := two_pos j; omega)]
  rw [k, Int.mul_comm ((2 : Int) ^ (63 - j)) 2, Int.mul_assoc]
  omega
theorem high_bit (A : Int) (j : Nat) (hj : 64 ≤ j) : A / 18446744073709551616 / 2 ^ (j - 64) = A / 2 ^ j := by
  rw [Int.ediv_ediv_of_nonneg (by decide), show (18446744073709551616 : Int) = 2 ^ 64 by rfl, ← two_add, show 64 + (j - 64) = j by omega]
theorem set_high (Q : Int) (j : Nat) (hj : 64 ≤ j) (hj' : j < 128) (h0 : 0 ≤ Q) (h1 : Q < 340282366920938463463374607431768211456) (hd : Q % 2 ^ (j + 1) = 0) :
    Go.bits .or .u64 (Q / 18446744073709551616) (2 ^ (j - 64)) = (Q + 2 ^ j) / 18446744073709551616 ∧ Q % 18446744073709551616 = (Q + 2 ^ j) % 18446744073709551616 := by
  have e : (2 : Int) ^ j = 2 ^ (j - 64) * 18446744073709551616 := by
    rw [show (18446744073709551616 : Int) = 2 ^ 64 by rfl, ← two_add, show j - 64 + 64 = j by omega]
  have e1 : (2 : Int) ^ (j + 1) = 2 ^ (j - 64 + 1) * 18446744073709551616 := by
    rw [show (18446744073709551616 : Int) = 2 ^ 64 by rfl, ← two_add, show j - 64 + 1 + 64 = j + 1 by omega]
  obtain ⟨c, hc⟩ := Int.dvd_of_emod_eq_zero hd
  have q : Q / 18446744073709551616 = 2 ^ (j - 64 + 1) * c := by
    rw [hc, e1, Int.mul_assoc, Int.mul_comm 18446744073709551616, ← Int.mul_assoc, Int.mul_ediv_cancel _ (by decide)]
  rw [e, Int.add_mul_ediv_right _ _ (by decide), Int.add_mul_emod_self_right]
  refine ⟨or_bit _ _ (by omega) (by omega) (by omega) ?_, rfl⟩
  rw [q, Int.mul_emod_right]
theorem set_low (Q : Int) (j : Nat) (hj : j < 64) (h0 : 0 ≤ Q) (hd : Q % 2 ^ (j + 1) = 0) :
    Go.bits .or .u64 (Q % 18446744073709551616) (2 ^ j) = (Q + 2 ^ j) % 18446744073709551616 ∧ Q / 18446744073709551616 = (Q + 2 ^ j) / 18446744073709551616 := by
  have e : (18446744073709551616 : Int) = 2 ^ (j + 1) * 2 ^ (63 - j) := by
    rw [← two_add, show j + 1 + (63 - j) = 64 by omega]; rfl
  have hp := two_pos (j + 1)
  have hq := two_lt j
  have hr := two_pos j
  obtain ⟨c, hc⟩ := Int.dvd_of_emod_eq_zero hd
  have m : Q % 18446744073709551616 = 2 ^ (j + 1) * (c % 2 ^ (63 - j)) := by
    rw [hc, e, Int.mul_emod_mul_of_pos _ _ hp]
  have s := Int.emod_lt_of_pos c (two_pos (63 - j))
  have t : 2 ^ (j + 1) * (c % 2 ^ (63 - j) + 1) ≤ (18446744073709551616 : Int) := by
    rw [e]; exact Int.mul_le_mul_of_nonneg_left (by omega) (Int.le_of_lt hp)
  rw [Int.mul_add, Int.mul_one, ← m] at t
  have z : Q % 18446744073709551616 % 2 ^ (j + 1) = 0 := by rw [m, Int.mul_emod_right]
  rw [or_bit _ j hj (by omega) (by omega) z]
  omega
theorem ten_le {i : Nat} (h : i ≤ 6) : (10 : Int) ^ i ≤ 1000000 ∧ (0 : Int) < 10 ^ i := by
  have : ∀ i : Fin 7, (10 : Int) ^ i.val ≤ 1000000 ∧ (0 : Int) < 10 ^ i.val := by decide
  exact this ⟨i, by omega⟩
/-- The quotient so far. -/
theorem quo_next (A n : Int) (j : Nat) (hA : 0 ≤ A) (hn : 0 < n) (b : Int) (hb : b = A / 2 ^ j % 2) :
    (2 * (A / 2 ^ (j + 1) % n) + b < n → A / 2 ^ j % n = 2 * (A / 2 ^ (j + 1) % n) + b ∧ A / 2 ^ j / n * 2 ^ j = A / 2 ^ (j + 1) / n * 2 ^ (j + 1)) ∧
    (n ≤ 2 * (A / 2 ^ (j + 1) % n) + b → A / 2 ^ j % n = 2 * (A / 2 ^ (j + 1) % n) + b - n ∧ A / 2 ^ j / n * 2 ^ j = A / 2 ^ (j + 1) / n * 2 ^ (j + 1) + 2 ^ j) := by
  have hs := two_split A j
  rw [← hb] at hs
  have hb0 : b = 0 ∨ b = 1 := by omega
  have he := Int.emod_add_mul_ediv (A / 2 ^ (j + 1)) n
  have h0 := Int.emod_nonneg (A / 2 ^ (j + 1)) (show n ≠ 0 by omega)
  have h1 := Int.emod_lt_of_pos (A / 2 ^ (j + 1)) hn
  have hp : (2 : Int) ^ (j + 1) = 2 * 2 ^ j := by rw [Int.pow_succ, Int.mul_comm]
  generalize A / 2 ^ (j + 1) / n = q at *
  generalize A / 2 ^ (j + 1) % n = r at *
  generalize A / 2 ^ (j + 1) = P at *
  have hA2 : A / 2 ^ j = n * (2 * q) + (2 * r + b) := by
    have : n * (2 * q) = 2 * (n * q) := by rw [← Int.mul_assoc, Int.mul_comm n 2, Int.mul_assoc]
    omega
  constructor
  · intro hlt
    rw [hA2, Int.mul_add_emod_self_left, Int.add_comm (n * (2 * q)), Int.add_mul_ediv_left _ _ (by omega), Int.emod_eq_of_lt (by omega) hlt, Int.ediv_eq_zero_of_lt (by omega) hlt, hp]
    refine ⟨rfl, ?_⟩
    rw [Int.zero_add, Int.mul_comm 2 q, Int.mul_assoc]
  · intro hge
    have hA3 : A / 2 ^ j = n * (2 * q + 1) + (2 * r + b - n) := by rw [hA2, Int.mul_add]; omega
    rw [hA3, Int.mul_add_emod_self_left, Int.add_comm (n * (2 * q + 1)), Int.add_mul_ediv_left _ _ (by omega), Int.emod_eq_of_lt (by omega) (by omega), Int.ediv_eq_zero_of_lt (by omega) (by omega), hp]
    refine ⟨rfl, ?_⟩
    rw [Int.zero_add, Int.add_mul, Int.mul_comm 2 q, Int.mul_assoc, Int.one_mul]
/-- The quotient so far and the place of the next bit. -/
theorem quo_room (A n : Int) (j : Nat) (hA : 0 ≤ A) (hA' : A < 340282366920938463463374607431768211456) (hn : 0 < n) :
    0 ≤ A / 2 ^ (j + 1) / n * 2 ^ (j + 1) ∧ A / 2 ^ (j + 1) / n * 2 ^ (j + 1) < 340282366920938463463374607431768211456 ∧ A / 2 ^ (j + 1) / n * 2 ^ (j + 1) % 2 ^ (j + 1) = 0 := by
  have hp := two_pos (j + 1)
  have h0 : 0 ≤ A / 2 ^ (j + 1) := Int.ediv_nonneg hA (Int.le_of_lt hp)
  have h1 : A / 2 ^ (j + 1) / n ≤ A / 2 ^ (j + 1) := Int.ediv_le_self _ h0
  have h2 : A / 2 ^ (j + 1) / n * 2 ^ (j + 1) ≤ A / 2 ^ (j + 1) * 2 ^ (j + 1) := Int.mul_le_mul_of_nonneg_right h1 (Int.le_of_lt hp)
  have h3 : A / 2 ^ (j + 1) * 2 ^ (j + 1) ≤ A := Int.ediv_mul_le _ (by omega)
  have h4 : 0 ≤ A / 2 ^ (j + 1) / n := Int.ediv_nonneg h0 (Int.le_of_lt hn)
  exact ⟨Int.mul_nonneg h4 (Int.le_of_lt hp), by omega, Int.mul_emod_left _ _⟩
/-- The amount of a wide number. -/
theorem mag_lt (h l : Int) (hh : Hi h) (hl : U l) : mag (h * 18446744073709551616 + l) ≤ 170141183460469231731687303715884105728 := by
  unfold Hi U mag at *
  split <;> omega
theorem U_join (x : Int) : x / 18446744073709551616 * 18446744073709551616 + x % 18446744073709551616 = x := by omega
theorem tdiv_at (m : Nat) (h : m < 128) : IntKind.i64.wrap (Int.tdiv (m : Int) 64) = ((m / 64 : Nat) : Int) := by
  rw [Int.tdiv_eq_ediv_of_nonneg (by omega)]
  rw [wr_i64]
  omega
theorem tmod_at (m : Nat) : IntKind.u64.wrap (Int.tmod (m : Int) 64) = ((m % 64 : Nat) : Int) := by
  rw [Int.tmod_eq_emod_of_nonneg (by omega)]
  exact wraps_u64 _ (by omega) (by omega)
theorem bit_at (y : Int) (m : Nat) (h0 : 0 ≤ y) (h1 : y < 18446744073709551616) : Go.bits .and .u64 (shrV .u64 y ((m % 64 : Nat) : Int)) 1 = y / 2 ^ (m % 64) % 2 := by
  have hz : 0 ≤ y / 2 ^ (m % 64) := Int.ediv_nonneg h0 (Int.le_of_lt (two_pos _))
  have hz' : y / 2 ^ (m % 64) ≤ y := Int.ediv_le_self _ h0
  rw [shr_at _ _ (by omega) (by omega), Int.toNat_natCast, and_one _ hz (by omega)]
theorem bit_high (A : Int) (m : Nat) (hA : 0 ≤ A) (hA' : A < 340282366920938463463374607431768211456) (h : 64 ≤ m) (h' : m < 128) : Go.bits .and .u64 (shrV .u64 (A / 18446744073709551616) ((m % 64 : Nat) : Int)) 1 = A / 2 ^ m % 2 := by
  rw [bit_at _ _ (by omega) (by omega), show m % 64 = m - 64 by omega, high_bit A m h]
theorem bit_low (A : Int) (m : Nat) (h : m < 64) : Go.bits .and .u64 (shrV .u64 (A % 18446744073709551616) ((m % 64 : Nat) : Int)) 1 = A / 2 ^ m % 2 := by
  rw [bit_at _ _ (by omega) (by omega), show m % 64 = m by omega, low_bit A m h]
theorem sign_mul (v w : Int) : (if ((decide (v < 0)) != (decide (w < 0))) = true then -(mag v * mag w) else mag v * mag w) = v * w := by
  unfold mag
  by_cases c : v < 0 <;> by_cases d : w < 0 <;> simp [c, d, Int.neg_mul, Int.mul_neg]
theorem Hi_neg (h l : Int) (hl : U l) : decide (h < 0) = decide (h * 18446744073709551616 + l < 0) := by
  unfold U at hl; exact decide_eq_decide.2 (by omega)
theorem tdiv_mag (v w : Int) (hw : w ≠ 0) : Int.tdiv v w = (if ((decide (v < 0)) != (decide (w < 0))) = true then -(mag v / mag w) else mag v / mag w) ∧ Int.tmod v w = (if decide (v < 0) = true then -(mag v % mag w) else mag v % mag w) := by
  unfold mag
  by_cases c : v < 0 <;> by_cases d : w < 0 <;> simp only [c, d, decide_true, decide_false, if_true, if_false, bne_self_eq_false, Bool.false_eq_true, Bool.true_bne, Bool.not_false, Bool.false_bne, bne_iff_ne, ne_eq, not_false_eq_true, reduceCtorEq]
  · obtain ⟨a, rfl⟩ : ∃ a, v = -a := ⟨-v, by omega⟩
    obtain ⟨b, rfl⟩ : ∃ b, w = -b := ⟨-w, by omega⟩
    rw [Int.neg_tdiv, Int.tdiv_neg, Int.neg_neg, Int.neg_tmod, Int.tmod_neg, Int.neg_neg, Int.neg_neg, Int.tdiv_eq_ediv_of_nonneg (by omega), Int.tmod_eq_emod_of_nonneg (by omega)]
    exact ⟨rfl, rfl⟩
  · obtain ⟨a, rfl⟩ : ∃ a, v = -a := ⟨-v, by omega⟩
    rw [Int.neg_tdiv, Int.neg_tmod, Int.neg_neg, Int.tdiv_eq_ediv_of_nonneg (by omega), Int.tmod_eq_emod_of_nonneg (by omega)]
    exact ⟨rfl, rfl⟩
  · obtain ⟨b, rfl⟩ : ∃ b, w = -b := ⟨-w, by omega⟩
    rw [Int.tdiv_neg, Int.tmod_neg, Int.neg_neg, Int.tdiv_eq_ediv_of_nonneg (by omega), Int.tmod_eq_emod_of_nonneg (by omega)]
    exact ⟨rfl, rfl⟩
  · rw [Int.tdiv_eq_ediv_of_nonneg (by omega), Int.tmod_eq_emod_of_nonneg (by omega)]
    exact ⟨rfl, rfl⟩
/-- A number and 0, or 0 and 10: no int64 holds it. -/
def fit (x : Int) : Int × Int := if -9223372036854775808 ≤ x ∧ x ≤ 9223372036854775807 then (x, 0) else (0, 10)
theorem fit_in {x : Int} (h : -9223372036854775808 ≤ x ∧ x ≤ 9223372036854775807) : fit x = (x, 0) := if_pos h
theorem fit_out {x : Int} (h : ¬ (-9223372036854775808 ≤ x ∧ x ≤ 9223372036854775807)) : fit x = (0, 10) := if_neg h
theorem mul_lim (a b A B : Int) (ha : -A ≤ a ∧ a ≤ A) (hb : -B ≤ b ∧ b ≤ B) (hA : 0 ≤ A) (hB : 0 ≤ B) : -(A * B) ≤ a * b ∧ a * b ≤ A * B := by
  have key : ∀ x y : Int, 0 ≤ x → x ≤ A → 0 ≤ y → y ≤ B → 0 ≤ x * y ∧ x * y ≤ A * B := fun x y h0 h1 h2 h3 => ⟨Int.mul_nonneg h0 h2, Int.mul_le_mul h1 h3 h2 hA⟩
  rcases Int.le_total 0 a with h | h <;> rcases Int.le_total 0 b with g | g
  · have := key a b h ha.2 g hb.2; omega
  · have := key a (-b) h ha.2 (by omega) (by omega); rw [Int.mul_neg] at this; omega
  · have := key (-a) b (by omega) (by omega) g hb.2; rw [Int.neg_mul] at this; omega
  · have := key (-a) (-b) (by omega) (by omega) (by omega) (by omega); rw [Int.neg_mul_neg] at this; omega
/-- A quotient is no greater than what is divided. -/
theorem tdiv_lim (x c L : Int) (hx : -L ≤ x ∧ x ≤ L) (hc : c ≠ 0) : -L ≤ Int.tdiv x c ∧ Int.tdiv x c ≤ L := by
  obtain ⟨e, _⟩ := tdiv_mag x c hc
  have m0 := mag_nonneg x
  have m1 : mag x ≤ L := by unfold mag; split <;> omega
  have c0 : 0 < mag c := by unfold mag; split <;> omega
  have q0 : 0 ≤ mag x / mag c := Int.ediv_nonneg m0 (Int.le_of_lt c0)
  have q1 : mag x / mag c ≤ mag x := Int.ediv_le_self _ m0
  rw [e]
  split <;> omega
theorem i64_max (x : Int) : Hi x ↔ -9223372036854775808 ≤ x ∧ x ≤ 9223372036854775807 := Iff.rfl
theorem mag_mul (a b : Int) : mag (a * b) = mag a * mag b := by
  have h := sign_mul a b
  have h0 : 0 ≤ mag a * mag b := Int.mul_nonneg (mag_nonneg a) (mag_nonneg b)
  rw [← h]
  by_cases c : (decide (a < 0) != decide (b < 0)) = true
  · rw [if_pos c]; generalize mag a * mag b = P at *; unfold mag; split <;> omega
  · rw [if_neg c]; exact mag_pos h0
theorem Hi_c (n : Int) (h : -9223372036854775808 ≤ n ∧ n ≤ 9223372036854775807) : Hi n := h
theorem mag_Hi {a : Int} (h : Hi a) : 0 ≤ mag a ∧ mag a ≤ 9223372036854775808 := by unfold Hi mag at *; split <;> omega
theorem tdiv_pos_lim (v n : Int) (hn : 0 < n) (h : -170141183460469231731687303715884105728 ≤ v ∧ v < 170141183460469231731687303715884105728) :
    -170141183460469231731687303715884105728 ≤ Int.tdiv v n ∧ Int.tdiv v n < 170141183460469231731687303715884105728 := by
  have t := (tdiv_mag v n (by omega)).1
  have m0 := mag_nonneg v
  have e : mag n = n := mag_pos (by omega)
  rw [e] at t
  have q0 : 0 ≤ mag v / n := Int.ediv_nonneg m0 (by omega)
  have q1 : mag v / n ≤ mag v := Int.ediv_le_self _ m0
  rw [show decide (n < 0) = false from decide_eq_false (by omega), Bool.bne_false] at t
  unfold mag at *
  rw [t]
  by_cases c : v < 0 <;> simp only [c, decide_true, decide_false, if_true, if_false, Bool.false_eq_true] at * <;> omega
/-- What a value stands for that was sent at a rate. -/
theorem scale_fit (v r : Int) (hv : -1000000000000000 ≤ v ∧ v ≤ 1000000000000000) (hr : 1000 ≤ r) : -1000000000000000000 ≤ Int.tdiv (v * 1000000) r ∧ Int.tdiv (v * 1000000) r ≤ 1000000000000000000 := by
  have t := (tdiv_mag (v * 1000000) r (by omega)).1
  have m0 := mag_nonneg (v * 1000000)
  have m1 : mag (v * 1000000) ≤ 1000000000000000000000 := by unfold mag; split <;> omega
  have e : mag r = r := mag_pos (by omega)
  rw [e] at t
  have q0 : 0 ≤ mag (v * 1000000) / r := Int.ediv_nonneg m0 (by omega)
  have q1 : mag (v * 1000000) / r ≤ 1000000000000000000 := by
    have : mag (v * 1000000) / r < 1000000000000000001 := Int.ediv_lt_of_lt_mul (by omega) (by
      have : 1000000000000000001 * 1000 ≤ 1000000000000000001 * r := Int.mul_le_mul_of_nonneg_left hr (by decide)
      omega)
    omega
  rw [t]
  split <;> omega
/-- How often t goes into an amount, to the nearest; a half goes up. -/
def near (m t : Int) : Int := m / t + if t ≤ 2 * (m % t) then 1 else 0
theorem near_lim (m t : Int) (hm : 0 ≤ m ∧ m ≤ 9223372036854775808) (ht : 1 ≤ t ∧ t ≤ 1000000) : 0 ≤ near m t ∧ near m t ≤ 9223372036854775808 ∧ 0 ≤ near m t * t ∧ near m t * t ≤ 9223372036855775808 ∧ (m - near m t * t) * 2 ≤ t ∧ (near m t * t - m) * 2 ≤ t ∧ (m - near m t * t) * 2 ≠ t := by
  have e := Int.emod_add_mul_ediv m t
  have r0 := Int.emod_nonneg m (show t ≠ 0 by omega)
  have r1 := Int.emod_lt_of_pos m (show 0 < t by omega)
  have q0 : 0 ≤ m / t := Int.ediv_nonneg hm.1 (by omega)
  have q1 : m / t ≤ m := Int.ediv_le_self _ hm.1
  unfold near
  generalize m % t = r at *
  generalize hq : m / t = q at *
  rw [Int.mul_comm] at e
  by_cases c : t ≤ 2 * r
  · rw [if_pos c, Int.add_mul, Int.one_mul]
    have : 0 ≤ q * t := Int.mul_nonneg q0 (by omega)
    have : q < m ∨ t = 1 := by
      by_cases h1 : t = 1
      · exact .inr h1
      · refine .inl ?_
        have : q * 2 ≤ q * t := Int.mul_le_mul_of_nonneg_left (by omega) q0
        by_cases h2 : q = 0 <;> omega
    refine ⟨by omega, by omega, by omega, by omega, by omega, by omega, by omega⟩
  · rw [if_neg c, Int.add_zero]
    have : 0 ≤ q * t := Int.mul_nonneg q0 (by omega)
    refine ⟨by omega, by omega, by omega, by omega, by omega, by omega, by omega⟩
theorem round_quo (v t : Int) (ht : 1 ≤ t) : Int.tdiv v t = (if v < 0 then -(mag v / t) else mag v / t) ∧ Int.tmod v t = (if v < 0 then -(mag v % t) else mag v % t) := by
  obtain ⟨a, b⟩ := tdiv_mag v t (by omega)
  rw [show mag t = t from mag_pos (by omega)] at a b
  rw [show decide (t < 0) = false from decide_eq_false (by omega), Bool.bne_false] at a
  simp only [decide_eq_true_eq] at a b
  exact ⟨a, b⟩
theorem wrap_in {x : Int} (h : -9223372036854775808 ≤ x ∧ x ≤ 9223372036854775807) : IntKind.i64.wrap x = x := by rw [wr_i64]; omega
theorem tdiv_mag_pos (v n : Int) (hn : 0 < n) : mag (Int.tdiv v n) = mag v / n ∧ (Int.tdiv v n ≠ 0 → (Int.tdiv v n < 0 ↔ v < 0)) := by
  have t := (round_quo v n (by omega)).1
  have q0 : 0 ≤ mag v / n := Int.ediv_nonneg (mag_nonneg v) (by omega)
  rw [t]
  generalize mag v / n = q at *
  by_cases c : v < 0
  · rw [if_pos c]
    refine ⟨?_, fun h => by omega⟩
    unfold mag; split <;> omega
  · rw [if_neg c]
    exact ⟨mag_pos q0, fun h => by omega⟩
/-- A greater value stands for no less. -/
theorem tdiv_mono (a b r : Int) (hr : 0 < r) (h : a ≤ b) : Int.tdiv a r ≤ Int.tdiv b r := by
  have ta := (round_quo a r (by omega)).1
  have tb := (round_quo b r (by omega)).1
  have qa : 0 ≤ mag a / r := Int.ediv_nonneg (mag_nonneg a) (by omega)
  have qb : 0 ≤ mag b / r := Int.ediv_nonneg (mag_nonneg b) (by omega)
  rw [ta, tb]
  by_cases c : a < 0 <;> by_cases d : b < 0 <;> simp only [c, d, if_true, if_false]
  · have : mag b / r ≤ mag a / r := Int.ediv_le_ediv hr (by unfold mag; rw [if_pos c, if_pos d]; omega)
    omega
  · omega
  · omega
  · exact Int.ediv_le_ediv hr (by unfold mag; rw [if_neg c, if_neg d]; omega)
end Go.Proofs.YtkocmbgpiidkdaaGreatDoor
