/- What WideParses says of whole numbers and texts alone, and why it holds: this session's own texts in one. -/
import Derived.Test.YtcfhmbhlibhlnaaDoorMine
import Derived.Test.YtcfhmbhlibhlnaaDoorPx0
import Derived.Test.YtcfhmbhlibhlnaaDoorPxf64
import Derived.Test.YtcfhmbhlibhlnaaDoorPxf72
import Derived.Test.YtcfhmbhlibhlnaaDoorPxf70
import Derived.Test.YtcfhmbhlibhlnaaDoorPxf27
import Derived.Test.YtcfhmbhlibhlnaaDoorPxf47
import Derived.Test.YtcfhmbhlibhlnaaDoorPxf41
import Derived.Test.YtcfhmbhlibhlnaaDoorPxf31
import Derived.Test.YtcfhmbhlibhlnaaDoorPxf39
import Derived.Test.YtcfhmbhlibhlnaaDoorPxf30
import Derived.Test.YtcfhmbhlibhlnaaDoorPxf50
import Derived.Test.YtcfhmbhlibhlnaaDoorPxf43
import Derived.Test.YtcfhmbhlibhlnaaDoorPxf45
import Derived.Test.YtcfhmbhlibhlnaaDoorPxf65
import Derived.Test.YtcfhmbhlibhlnaaDoorPxf25
import Derived.Test.YtcfhmbhlibhlnaaDoorPxf29
import Derived.Test.YtcfhmbhlibhlnaaDoorPxf52
import Derived.Test.YtcfhmbhlibhlnaaDoorPxf103
import Derived.Test.YtcfhmbhlibhlnaaDoorPxf81
import Derived.Test.YtcfhmbhlibhlnaaDoorPxf126
import Derived.Test.YtcfhmbhlibhlnaaDoorPxf69
import Derived.Test.YtcfhmbhlibhlnaaDoorPxf76
import Derived.Test.YtcfhmbhlibhlnaaDoorPxf73
import Derived.Test.YtcfhmbhlibhlnaaDoorPxf48
import Derived.Test.YtcfhmbhlibhlnaaDoorPxf104
import Derived.Test.YtcfhmbhlibhlnaaDoorPxf74
import Derived.Test.YtcfhmbhlibhlnaaDoorPxf108
import Derived.Test.YtcfhmbhlibhlnaaDoorPxf110
import Derived.Test.YtcfhmbhlibhlnaaDoorPxf109
import Derived.Test.YtcfhmbhlibhlnaaDoorPxf77
import Derived.Test.YtcfhmbhlibhlnaaDoorPxf53
import Derived.Test.YtcfhmbhlibhlnaaDoorPxf15
namespace Go.Proofs.YtcfhmbhlibhlnaaDoor.MM
open Go.RowKit Go.Proofs.YtcfhmbhlibhlnaaDoor.P Go.Proofs.YtcfhmbhlibhlnaaDoorW.PrintWords Go.Proofs.YtcfhmbhlibhlnaaDoorW.PrintMore Go.Proofs.YtcfhmbhlibhlnaaDoor.Mine
set_option linter.unusedVariables false
set_option linter.unusedSimpArgs false
theorem Ev_rounds {α : Type} {g : Nat → Option α} {r : α} (h : Ev g r) : ∃ k, g k = some r := by
  obtain ⟨K, h⟩ := h
  exact ⟨K, h K (Nat.le_refl _)⟩
theorem wrap_u64 (n : Int) : IntKind.u64.wrap n = n % 18446744073709551616 := by simp [IntKind.wrap, IntKind.bits, IntKind.signed]
theorem wraps_u64 (n : Int) (h₀ : 0 ≤ n) (h₁ : n < 2 ^ 64) : IntKind.u64.wrap n = n := by rw [wrap_u64]; omega
theorem and_one (x : Int) (h0 : 0 ≤ x) (h1 : x < 18446744073709551616) : Go.bits .and .u64 x 1 = x % 2 :=
  bits_mask .u64 64 (by decide) wraps_u64 1 (by decide) x h0 (by simpa using h1)
theorem and_low (x : Int) (h0 : 0 ≤ x) (h1 : x < 18446744073709551616) : Go.bits .and .u64 x 4294967295 = x % 4294967296 :=
  bits_mask .u64 64 (by decide) wraps_u64 32 (by decide) x h0 (by simpa using h1)
theorem or_one (x y : Int) (h0 : 0 ≤ x) (h1 : x < 18446744073709551616) (h2 : x % 2 = 0) (h3 : 0 ≤ y) (h4 : y < 2) : Go.bits .or .u64 x y = x + y :=
  bits_join .u64 64 (by decide) wraps_u64 1 x y h0 (by simpa using h2) (by simpa using h1) h3 (by simpa using h4) (by simp; omega)
theorem two_lt (j : Nat) : (2 : Int) ^ j < 2 ^ (j + 1) := by
  have hz : (0 : Int) < 2 ^ j := Int.pow_pos (by decide)
  rw [Int.pow_succ]; omega
theorem two_le {j i : Nat} (h : j ≤ i) : (2 : Int) ^ j ≤ 2 ^ i := by
  have h : (2 : Nat) ^ j ≤ 2 ^ i := Nat.pow_le_pow_right (by decide) h
  exact_mod_cast h
theorem or_bit (x : Int) (j : Nat) (hj : j < 64) (h0 : 0 ≤ x) (h1 : x < 18446744073709551616) (h2 : x % 2 ^ (j + 1) = 0) : Go.bits .or .u64 x (2 ^ j) = x + 2 ^ j := by
  have hp := two_lt j
  have hq : (2 : Int) ^ (j + 1) ≤ 2 ^ 64 := two_le (by omega)
  have hz : (0 : Int) < 2 ^ j := Int.pow_pos (by decide)
  exact bits_join .u64 64 (by decide) wraps_u64 (j + 1) x (2 ^ j) h0 h2 (by simpa using h1) (Int.le_of_lt hz) hp (by omega)
theorem xor_all (x : Int) (h0 : 0 ≤ x) (h1 : x < 18446744073709551616) : Go.bits .xor .u64 18446744073709551615 x = 18446744073709551615 - x := by
  obtain ⟨a, rfl⟩ := Int.eq_ofNat_of_zero_le h0
  have ha : a < 2 ^ 64 := by omega
  have e : (BitVec.ofInt 64 18446744073709551615) ^^^ (BitVec.ofInt 64 (a : Int)) = ~~~ (BitVec.ofNat 64 a) := by
    rw [BitVec.ofInt_natCast, show BitVec.ofInt 64 18446744073709551615 = BitVec.allOnes 64 by decide, BitVec.allOnes_xor]
  show IntKind.u64.wrap (((BitVec.ofInt 64 18446744073709551615) ^^^ (BitVec.ofInt 64 (a : Int))).toNat : Int) = _
  rw [e, BitVec.toNat_not, BitVec.toNat_ofNat, Nat.mod_eq_of_lt ha, wrap_u64]
  omega
theorem shl_one (i : Int) (h0 : 0 ≤ i) (h1 : i < 64) : shl .u64 1 i = 2 ^ i.toNat := by
  have e : min i.toNat (IntKind.u64.bits) = i.toNat := by show min i.toNat 64 = _; omega
  unfold shl; rw [e, Int.one_mul]
  apply wraps_u64 _ (Int.le_of_lt (Int.pow_pos (by decide)))
  have h : (2 : Nat) ^ i.toNat < 2 ^ 64 := Nat.pow_lt_pow_right (by decide) (by omega)
  exact_mod_cast h
theorem shr_at (x i : Int) (h0 : 0 ≤ i) (h1 : i < 64) : shr .u64 x i = x / 2 ^ i.toNat := by
  have e : min i.toNat (IntKind.u64.bits) = i.toNat := by show min i.toNat 64 = _; omega
  unfold shr; rw [e]
def U (x : Int) : Prop := 0 ≤ x ∧ x < 18446744073709551616
theorem pair2 {α β : Type} {a a' : α} {b b' : β} (h : a = a') (h' : b = b') : some (a, b) = some (a', b') := by subst h h'; rfl
theorem trip {α β γ : Type} {a a' : α} {b b' : β} {c c' : γ} (h : a = a') (h' : b = b') (h'' : c = c') : some (a, b, c) = some (a', b', c') := by subst h h' h''; rfl
/-- A wide number's bounds. -/
def Hi (x : Int) : Prop := -9223372036854775808 ≤ x ∧ x ≤ 9223372036854775807
def mag (v : Int) : Int := if v < 0 then -v else v
theorem mag_pos {v : Int} (h : 0 ≤ v) : mag v = v := if_neg (by omega)
theorem mag_neg {v : Int} (h : v < 0) : mag v = -v := if_pos h
theorem mag_nonneg (v : Int) : 0 ≤ mag v := by unfold mag; split <;> omega
theorem two_pos (j : Nat) : (0 : Int) < 2 ^ j := Int.pow_pos (by decide)
theorem halve (n : Int) (j : Nat) : n / 2 ^ (j + 1) = n / 2 ^ j / 2 := by
  rw [Int.pow_succ, ← Int.ediv_ediv_of_nonneg (Int.le_of_lt (two_pos j))]
theorem two_split (n : Int) (j : Nat) : n / 2 ^ j = 2 * (n / 2 ^ (j + 1)) + n / 2 ^ j % 2 := by
  rw [halve]; omega
theorem two_add (a b : Nat) : (2 : Int) ^ (a + b) = 2 ^ a * 2 ^ b := Int.pow_add 2 a b
theorem low_bit (A : Int) (j : Nat) (hj : j < 64) : A % 18446744073709551616 / 2 ^ j % 2 = A / 2 ^ j % 2 := by
  have e : (18446744073709551616 : Int) = 2 ^ j * (2 ^ (63 - j) * 2) := by
    rw [← Int.pow_succ, ← two_add, show j + (63 - j + 1) = 64 by omega]; rfl
  have h := Int.emod_add_mul_ediv A 18446744073709551616
  have k : A / 2 ^ j = A % 18446744073709551616 / 2 ^ j + 2 ^ (63 - j) * 2 * (A / 18446744073709551616) := by
    have h' : A = A % 18446744073709551616 + (2 ^ (63 - j) * 2 * (A / 18446744073709551616)) * 2 ^ j := by
      rw [Int.mul_comm _ ((2 : Int) ^ j), ← Int.mul_assoc ((2 : Int) ^ j), ← e]; exact h.symm
    conv => lhs; rw [h']
    rw [Int.add_mul_ediv_right _ _ (by have := two_pos j; omega)]
  rw [k, Int.mul_comm ((2 : Int) ^ (63 - j)) 2, Int.mul_assoc]
  omega
theorem high_bit (A : Int) (j : Nat) (hj : 64 ≤ j) : A / 18446744073709551616 / 2 ^ (j - 64) = A / 2 ^ j := by
  rw [Int.ediv_ediv_of_nonneg (by decide), show (18446744073709551616 : Int) = 2 ^ 64 by rfl, ← two_add, show 64 + (j - 64) = j by omega]
theorem set_high (Q : Int) (j : Nat) (hj : 64 ≤ j) (hj' : j < 128) (h0 : 0 ≤ Q) (h1 : Q < 340282366920938463463374607431768211456) (hd : Q % 2 ^ (j + 1) = 0) :
    Go.bits .or .u64 (Q / 18446744073709551616) (2 ^ (j - 64)) = (Q + 2 ^ j) / 18446744073709551616 ∧ Q % 18446744073709551616 = (Q + 2 ^ j) % 18446744073709551616 := by
  have e : (2 : Int) ^ j = 2 ^ (j - 64) * 18446744073709551616 := by
    rw [show (18446744073709551616 : Int) = 2 ^ 64 by rfl, ← two_add, show j - 64 + 64 = j by omega]
  have e1 : (2 : Int) ^ (j + 1) = 2 ^ (j - 64 + 1) * 18446744073709551616 := by
    rw [show (18446744073709551616 : Int) = 2 ^ 64 by rfl, ← two_add, show j - 64 + 1 + 64 = j + 1 by omega]
  obtain ⟨c, hc⟩ := Int.dvd_of_emod_eq_zero hd
  have q : Q / 18446744073709551616 = 2 ^ (j - 64 + 1) * c := by
    rw [hc, e1, Int.mul_assoc, Int.mul_comm 18446744073709551616, ← Int.mul_assoc, Int.mul_ediv_cancel _ (by decide)]
  rw [e, Int.add_mul_ediv_right _ _ (by decide), Int.add_mul_emod_self_right]
  refine ⟨or_bit _ _ (by omega) (by omega) (by omega) ?_, rfl⟩
  rw [q, Int.mul_emod_right]
theorem set_low (Q : Int) (j : Nat) (hj : j < 64) (h0 : 0 ≤ Q) (hd : Q % 2 ^ (j + 1) = 0) :
    Go.bits .or .u64 (Q % 18446744073709551616) (2 ^ j) = (Q + 2 ^ j) % 18446744073709551616 ∧ Q / 18446744073709551616 = (Q + 2 ^ j) / 18446744073709551616 := by
  have e : (18446744073709551616 : Int) = 2 ^ (j + 1) * 2 ^ (63 - j) := by
    rw [← two_add, show j + 1 + (63 - j) = 64 by omega]; rfl
  have hp := two_pos (j + 1)
  have hq := two_lt j
  have hr := two_pos j
  obtain ⟨c, hc⟩ := Int.dvd_of_emod_eq_zero hd
  have m : Q % 18446744073709551616 = 2 ^ (j + 1) * (c % 2 ^ (63 - j)) := by
    rw [hc, e, Int.mul_emod_mul_of_pos _ _ hp]
  have s := Int.emod_lt_of_pos c (two_pos (63 - j))
  have t : 2 ^ (j + 1) * (c % 2 ^ (63 - j) + 1) ≤ (18446744073709551616 : Int) := by
    rw [e]; exact Int.mul_le_mul_of_nonneg_left (by omega) (Int.le_of_lt hp)
  rw [Int.mul_add, Int.mul_one, ← m] at t
  have z : Q % 18446744073709551616 % 2 ^ (j + 1) = 0 := by rw [m, Int.mul_emod_right]
  rw [or_bit _ j hj (by omega) (by omega) z]
  omega
/-- The quotient so far. -/
theorem quo_next (A n : Int) (j : Nat) (hA : 0 ≤ A) (hn : 0 < n) (b : Int) (hb : b = A / 2 ^ j % 2) :
    (2 * (A / 2 ^ (j + 1) % n) + b < n → A / 2 ^ j % n = 2 * (A / 2 ^ (j + 1) % n) + b ∧ A / 2 ^ j / n * 2 ^ j = A / 2 ^ (j + 1) / n * 2 ^ (j + 1)) ∧
    (n ≤ 2 * (A / 2 ^ (j + 1) % n) + b → A / 2 ^ j % n = 2 * (A / 2 ^ (j + 1) % n) + b - n ∧ A / 2 ^ j / n * 2 ^ j = A / 2 ^ (j + 1) / n * 2 ^ (j + 1) + 2 ^ j) := by
  have hs := two_split A j
  rw [← hb] at hs
  have hb0 : b = 0 ∨ b = 1 := by omega
  have he := Int.emod_add_mul_ediv (A / 2 ^ (j + 1)) n
  have h0 := Int.emod_nonneg (A / 2 ^ (j + 1)) (show n ≠ 0 by omega)
  have h1 := Int.emod_lt_of_pos (A / 2 ^ (j + 1)) hn
  have hp : (2 : Int) ^ (j + 1) = 2 * 2 ^ j := by rw [Int.pow_succ, Int.mul_comm]
  generalize A / 2 ^ (j + 1) / n = q at *
  generalize A / 2 ^ (j + 1) % n = r at *
  generalize A / 2 ^ (j + 1) = P at *
  have hA2 : A / 2 ^ j = n * (2 * q) + (2 * r + b) := by
    have : n * (2 * q) = 2 * (n * q) := by rw [← Int.mul_assoc, Int.mul_comm n 2, Int.mul_assoc]
    omega
  constructor
  · intro hlt
    rw [hA2, Int.mul_add_emod_self_left, Int.add_comm (n * (2 * q)), Int.add_mul_ediv_left _ _ (by omega), Int.emod_eq_of_lt (by omega) hlt, Int.ediv_eq_zero_of_lt (by omega) hlt, hp]
    refine ⟨rfl, ?_⟩
    rw [Int.zero_add, Int.mul_comm 2 q, Int.mul_assoc]
  · intro hge
    have hA3 : A / 2 ^ j = n * (2 * q + 1) + (2 * r + b - n) := by rw [hA2, Int.mul_add]; omega
    rw [hA3, Int.mul_add_emod_self_left, Int.add_comm (n * (2 * q + 1)), Int.add_mul_ediv_left _ _ (by omega), Int.emod_eq_of_lt (by omega) (by omega), Int.ediv_eq_zero_of_lt (by omega) (by omega), hp]
    refine ⟨rfl, ?_⟩
    rw [Int.zero_add, Int.add_mul, Int.mul_comm 2 q, Int.mul_assoc, Int.one_mul]
/-- The quotient so far and the place of the next bit. -/
theorem quo_room (A n : Int) (j : Nat) (hA : 0 ≤ A) (hA' : A < 340282366920938463463374607431768211456) (hn : 0 < n) :
    0 ≤ A / 2 ^ (j + 1) / n * 2 ^ (j + 1) ∧ A / 2 ^ (j + 1) / n * 2 ^ (j + 1) < 340282366920938463463374607431768211456 ∧ A / 2 ^ (j + 1) / n * 2 ^ (j + 1) % 2 ^ (j + 1) = 0 := by
  have hp := two_pos (j + 1)
  have h0 : 0 ≤ A / 2 ^ (j + 1) := Int.ediv_nonneg hA (Int.le_of_lt hp)
  have h1 : A / 2 ^ (j + 1) / n ≤ A / 2 ^ (j + 1) := Int.ediv_le_self _ h0
  have h2 : A / 2 ^ (j + 1) / n * 2 ^ (j + 1) ≤ A / 2 ^ (j + 1) * 2 ^ (j + 1) := Int.mul_le_mul_of_nonneg_right h1 (Int.le_of_lt hp)
  have h3 : A / 2 ^ (j + 1) * 2 ^ (j + 1) ≤ A := Int.ediv_mul_le _ (by omega)
  have h4 : 0 ≤ A / 2 ^ (j + 1) / n := Int.ediv_nonneg h0 (Int.le_of_lt hn)
  exact ⟨Int.mul_nonneg h4 (Int.le_of_lt hp), by omega, Int.mul_emod_left _ _⟩
/-- The amount of a wide number. -/
theorem mag_lt (h l : Int) (hh : Hi h) (hl : U l) : mag (h * 18446744073709551616 + l) ≤ 170141183460469231731687303715884105728 := by
  unfold Hi U mag at *
  split <;> omega
theorem U_mod (x : Int) : U (x % 18446744073709551616) := by unfold U; omega
theorem U_div (x : Int) (h : 0 ≤ x) (h' : x < 340282366920938463463374607431768211456) : U (x / 18446744073709551616) := by unfold U; omega
theorem U_join (x : Int) : x / 18446744073709551616 * 18446744073709551616 + x % 18446744073709551616 = x := by omega
theorem tdiv_at (m : Nat) (h : m < 128) : wrap64 (Int.tdiv (m : Int) 64) = ((m / 64 : Nat) : Int) := by
  rw [Int.tdiv_eq_ediv_of_nonneg (by omega)]
  unfold wrap64
  omega
theorem tmod_at (m : Nat) : IntKind.u64.wrap (Int.tmod (m : Int) 64) = ((m % 64 : Nat) : Int) := by
  rw [Int.tmod_eq_emod_of_nonneg (by omega)]
  exact wraps_u64 _ (by omega) (by omega)
theorem bit_at (y : Int) (m : Nat) (h0 : 0 ≤ y) (h1 : y < 18446744073709551616) : Go.bits .and .u64 (shr .u64 y ((m % 64 : Nat) : Int)) 1 = y / 2 ^ (m % 64) % 2 := by
  have hz : 0 ≤ y / 2 ^ (m % 64) := Int.ediv_nonneg h0 (Int.le_of_lt (two_pos _))
  have hz' : y / 2 ^ (m % 64) ≤ y := Int.ediv_le_self _ h0
  rw [shr_at _ _ (by omega) (by omega), Int.toNat_natCast, and_one _ hz (by omega)]
theorem bit_high (A : Int) (m : Nat) (hA : 0 ≤ A) (hA' : A < 340282366920938463463374607431768211456) (h : 64 ≤ m) (h' : m < 128) : Go.bits .and .u64 (shr .u64 (A / 18446744073709551616) ((m % 64 : Nat) : Int)) 1 = A / 2 ^ m % 2 := by
  rw [bit_at _ _ (by omega) (by omega), show m % 64 = m - 64 by omega, high_bit A m h]
theorem bit_low (A : Int) (m : Nat) (h : m < 64) : Go.bits .and .u64 (shr .u64 (A % 18446744073709551616) ((m % 64 : Nat) : Int)) 1 = A / 2 ^ m % 2 := by
  rw [bit_at _ _ (by omega) (by omega), show m % 64 = m by omega, low_bit A m h]
theorem sign_mul (v w : Int) : (if ((decide (v < 0)) != (decide (w < 0))) = true then -(mag v * mag w) else mag v * mag w) = v * w := by
  unfold mag
  by_cases c : v < 0 <;> by_cases d : w < 0 <;> simp [c, d, Int.neg_mul, Int.mul_neg]
theorem Hi_neg (h l : Int) (hl : U l) : decide (h < 0) = decide (h * 18446744073709551616 + l < 0) := by
  unfold U at hl; exact decide_eq_decide.2 (by omega)
theorem subHi_is (x y c : Int) (hx : U x) (hy : U y) (hc : 0 ≤ c) (hc' : c ≤ 1) : subHi x y c = if x < y + c then 1 else 0 := by
  unfold U at *
  unfold subHi
  by_cases h : x < y + c
  · rw [if_pos h, if_pos (by omega)]; rfl
  · rw [if_neg h, if_neg (by omega)]; rfl
theorem subHi_le (x y c : Int) : subHi x y c ≤ 1 := by unfold subHi; split <;> decide
theorem subHi_ge (x y c : Int) : 0 ≤ subHi x y c := by unfold subHi; split <;> decide
theorem subLo_is (x y c : Int) (hx : U x) (hy : U y) (hc : 0 ≤ c) (hc' : c ≤ 1) : subLo x y c = (x - y - c) % 18446744073709551616 := by
  unfold U at *
  unfold subLo
  omega
theorem addLo_is (x y c : Int) (hx : U x) (hy : U y) (hc : 0 ≤ c) (hc' : c ≤ 1) : addLo x y c = (x + y + c) % 18446744073709551616 := by
  unfold U at *
  unfold addLo
  omega
theorem addHi_is (x y c : Int) (hx : U x) (hy : U y) (hc : 0 ≤ c) (hc' : c ≤ 1) : addHi x y c = (x + y + c) / 18446744073709551616 := by
  unfold U at *
  unfold addHi
  omega
theorem amount_is (h l : Int) (hh : Hi h) (hl : U l) : wide_amount.f h l = some (mag (h * 18446744073709551616 + l) % 18446744073709551616, mag (h * 18446744073709551616 + l) / 18446744073709551616) := by
  unfold wide_amount.f
  by_cases c : h ≥ 0
  · unfold Hi U at *
    rw [if_pos c, mag_pos (by omega), wrap_u64]
    exact pair2 (by omega) (by omega)
  · have z : U 0 := by unfold U; omega
    have hw : U (h % 18446744073709551616) := by unfold U; omega
    rw [if_neg c, if_pos (subHi_le _ _ _), wrap_u64, subLo_is _ _ _ z hl (by omega) (by omega), subLo_is _ _ _ z hw (subHi_ge _ _ _) (subHi_le _ _ _), subHi_is _ _ _ z hl (by omega) (by omega)]
    unfold Hi U at *
    rw [mag_neg (by omega)]
    by_cases d : l = 0
    · rw [if_neg (by omega)]
      exact pair2 (by omega) (by omega)
    · rw [if_pos (by omega)]
      exact pair2 (by omega) (by omega)
/-- The wide number of an amount with a sign; 10: there is none. -/
def wsigned (M : Int) (b : Bool) : Int × Int × Int :=
  if M > 170141183460469231731687303715884105728 ∨ M = 170141183460469231731687303715884105728 ∧ b = false then (0, 0, 10) else ((if b = true then -M else M) / 18446744073709551616, (if b = true then -M else M) % 18446744073709551616, 0)
theorem signed_at (k : Nat) (l h : Int) (b : Bool) (hl : U l) (hh : U h) : wide_signed.f (k + 1) l h b = some (wsigned (h * 18446744073709551616 + l) b) := by
  have z : U 0 := by unfold U; omega
  unfold wide_signed.f wsigned
  simp only [wide_signed.j0]
  rw [if_pos (subHi_le _ _ _), subLo_is _ _ _ z hl (by omega) (by omega), subLo_is _ _ _ z hh (subHi_ge _ _ _) (subHi_le _ _ _), subHi_is _ _ _ z hl (by omega) (by omega)]
  unfold U at *
  cases b <;> simp only [Bool.false_eq_true, if_false, if_true, reduceCtorEq, and_false, and_true, or_false, wrap64, decide_eq_true_eq]
  all_goals
    repeat' split
    all_goals first | rfl | (exfalso; omega) | exact trip (by omega) (by omega) rfl
/-- The wide number x and 0, or 10. -/
def wenc (x : Int) : Int × Int × Int := if -170141183460469231731687303715884105728 ≤ x ∧ x < 170141183460469231731687303715884105728 then (x / 18446744073709551616, x % 18446744073709551616, 0) else (0, 0, 10)
theorem wenc_out {x : Int} (h : ¬ (-170141183460469231731687303715884105728 ≤ x ∧ x < 170141183460469231731687303715884105728)) : wenc x = (0, 0, 10) := if_neg h
theorem wsigned_enc (M : Int) (b : Bool) (hM : 0 ≤ M) : wsigned M b = wenc (if b = true then -M else M) := by
  unfold wsigned wenc
  cases b <;> simp only [Bool.false_eq_true, if_false, if_true, reduceCtorEq, and_false, and_true, or_false]
  · by_cases c : M > 170141183460469231731687303715884105728 ∨ M = 170141183460469231731687303715884105728
    · rw [if_pos c, if_neg (by omega)]
    · rw [if_neg c, if_pos (by omega)]
  · by_cases c : M > 170141183460469231731687303715884105728
    · rw [if_pos c, if_neg (by omega)]
    · rw [if_neg c, if_pos (by omega)]
/-- math/bits.Mul64. -/
theorem Mul64_is (x y : Int) (hx : U x) (hy : U y) : bits_Mul64.f x y = some (x * y / 18446744073709551616, x * y % 18446744073709551616) := by
  unfold U at *
  unfold bits_Mul64.f
  rw [and_low x (by omega) (by omega), and_low y (by omega) (by omega)]
  generalize hx1 : x / 4294967296 = x1
  generalize hx0 : x % 4294967296 = x0
  generalize hy1 : y / 4294967296 = y1
  generalize hy0 : y % 4294967296 = y0
  have b1 : 0 ≤ x1 ∧ x1 ≤ 4294967295 := by omega
  have b0 : 0 ≤ x0 ∧ x0 ≤ 4294967295 := by omega
  have c1 : 0 ≤ y1 ∧ y1 ≤ 4294967295 := by omega
  have c0 : 0 ≤ y0 ∧ y0 ≤ 4294967295 := by omega
  have lim : ∀ a b : Int, 0 ≤ a ∧ a ≤ 4294967295 → 0 ≤ b ∧ b ≤ 4294967295 → 0 ≤ a * b ∧ a * b ≤ 18446744065119617025 := fun a b ha hb => by
    have h1 : a * b ≤ 4294967295 * 4294967295 := Int.mul_le_mul ha.2 hb.2 hb.1 (by omega)
    exact ⟨Int.mul_nonneg ha.1 hb.1, by omega⟩
  have p00 := lim x0 y0 b0 c0
  have p10 := lim x1 y0 b1 c0
  have p01 := lim x0 y1 b0 c1
  have p11 := lim x1 y1 b1 c1
  have hxy : x * y = x1 * y1 * 18446744073709551616 + (x1 * y0 + x0 * y1) * 4294967296 + x0 * y0 := by
    have e1 : x = x1 * 4294967296 + x0 := by omega
    have e2 : y = y1 * 4294967296 + y0 := by omega
    rw [e1, e2]; grind
  rw [hxy]
  generalize x0 * y0 = a at *
  generalize x1 * y0 = b at *
  generalize x0 * y1 = c at *
  generalize x1 * y1 = d at *
  have ea : IntKind.u64.wrap a = a := by rw [wrap_u64]; omega
  have eb : IntKind.u64.wrap b = b := by rw [wrap_u64]; omega
  have ec : IntKind.u64.wrap c = c := by rw [wrap_u64]; omega
  have ed : IntKind.u64.wrap d = d := by rw [wrap_u64]; omega
  have et : IntKind.u64.wrap (b + a / 4294967296) = b + a / 4294967296 := by rw [wrap_u64]; omega
  rw [ea, eb, ec, ed, et, and_low _ (by omega) (by omega)]
  have ew : IntKind.u64.wrap ((b + a / 4294967296) % 4294967296 + c) = (b + a / 4294967296) % 4294967296 + c := by rw [wrap_u64]; omega
  rw [ew, wrap_u64, wrap_u64, wrap_u64]
  exact pair2 (by omega) rfl
theorem Mul_half (k : Nat) (M N : Int) (h0 h1 g0 g1 : Int) (s : Bool) (R : Int × Int × Int) (hM : 0 ≤ M) (hM' : M < 340282366920938463463374607431768211456) (hN : 0 ≤ N) (hN' : N < 18446744073709551616) (hs : (decide (h0 < 0) != decide (g0 < 0)) = s)
    (hR : R = wenc (if s = true then -(M * N) else M * N)) (hK : ∀ l h, U l → U h → wide_signed.f k l h s = some (wsigned (h * 18446744073709551616 + l) s)) :
    wide_Mul.j1 (k + 1) h0 h1 g0 g1 (M % 18446744073709551616) (M / 18446744073709551616) (N % 18446744073709551616) (N / 18446744073709551616) = some R := by
  simp only [wide_Mul.j1]
  have u0 := U_mod M
  have u1 := U_div M hM hM'
  have v0 := U_mod N
  rw [Mul64_is _ _ u0 v0, Mul64_is _ _ u1 v0, hs, hR]
  have hp : M * N = (M / 18446744073709551616 * (N % 18446744073709551616)) * 18446744073709551616 + M % 18446744073709551616 * (N % 18446744073709551616) := by
    have e1 : N % 18446744073709551616 = N := by omega
    have e2 : M = M / 18446744073709551616 * 18446744073709551616 + M % 18446744073709551616 := by omega
    rw [e1]
    conv => lhs; rw [e2]
    rw [Int.add_mul, Int.mul_right_comm]
  have p1 : 0 ≤ M / 18446744073709551616 * (N % 18446744073709551616) := Int.mul_nonneg u1.1 v0.1
  have p0 : 0 ≤ M % 18446744073709551616 * (N % 18446744073709551616) := Int.mul_nonneg u0.1 v0.1
  have q0 : M % 18446744073709551616 * (N % 18446744073709551616) ≤ 18446744073709551615 * 18446744073709551615 := Int.mul_le_mul (by omega) (by omega) v0.1 (by omega)
  rw [hp]
  clear hp hR u0 u1 v0
  generalize M / 18446744073709551616 * (N % 18446744073709551616) = a at *
  generalize M % 18446744073709551616 * (N % 18446744073709551616) = b at *
  simp only [Option.bind_some]
  have ub : U (b / 18446744073709551616) := by unfold U; omega
  by_cases c : a / 18446744073709551616 > 0
  · rw [if_pos c, wenc_out]
    cases s <;> simp only [Bool.false_eq_true, if_false, if_true] <;> omega
  · rw [if_neg c, addHi_is _ _ _ ub (U_mod _) (by omega) (by omega), addLo_is _ _ _ ub (U_mod _) (by omega) (by omega)]
    by_cases d : (b / 18446744073709551616 + a % 18446744073709551616 + 0) / 18446744073709551616 > 0
    · rw [if_pos d, wenc_out]
      cases s <;> simp only [Bool.false_eq_true, if_false, if_true] <;> omega
    · rw [if_neg d, hK _ _ (U_mod _) (U_mod _)]
      simp only [Option.bind_some]
      have e : (b / 18446744073709551616 + a % 18446744073709551616 + 0) % 18446744073709551616 * 18446744073709551616 + b % 18446744073709551616 = a * 18446744073709551616 + b := by omega
      rw [e, wsigned_enc _ _ (by omega)]
theorem signed_all (s : Bool) : ∃ K, ∀ k, K ≤ k → ∀ l h, U l → U h → wide_signed.f k l h s = some (wsigned (h * 18446744073709551616 + l) s) :=
  ⟨1, fun k hk l h hl hh => by
    obtain ⟨k, rfl⟩ : ∃ j, k = j + 1 := ⟨k - 1, by omega⟩
    exact signed_at k l h s hl hh⟩
theorem Mul_is (h l h' l' : Int) (hh : Hi h) (hl : U l) (hh' : Hi h') (hl' : U l') :
    Ev (fun k => wide_Mul.f k h l h' l') (wenc ((h * 18446744073709551616 + l) * (h' * 18446744073709551616 + l'))) := by
  obtain ⟨K, hK⟩ := signed_all (decide (h < 0) != decide (h' < 0))
  refine ⟨K + 2, fun k hk => ?_⟩
  obtain ⟨k, rfl⟩ : ∃ j, k = j + 2 := ⟨k - 2, by omega⟩
  have hv := sign_mul (h * 18446744073709551616 + l) (h' * 18446744073709551616 + l')
  rw [← Hi_neg h l hl, ← Hi_neg h' l' hl'] at hv
  simp only [wide_Mul.f]
  rw [amount_is h l hh hl, amount_is h' l' hh' hl']
  simp only [Option.bind_some]
  have m1 := mag_lt h l hh hl
  have m2 := mag_lt h' l' hh' hl'
  have n1 := mag_nonneg (h * 18446744073709551616 + l)
  have n2 := mag_nonneg (h' * 18446744073709551616 + l')
  rw [← hv]
  generalize mag (h * 18446744073709551616 + l) = M at *
  generalize mag (h' * 18446744073709551616 + l') = N at *
  clear hv
  have hKk := hK k (by omega)
  generalize hs : (decide (h < 0) != decide (h' < 0)) = s at *
  by_cases c : M / 18446744073709551616 > 0
  · rw [if_pos c]
    by_cases d : N / 18446744073709551616 > 0
    · rw [decide_eq_true d]
      simp only [wide_Mul.j0, if_true]
      have : 18446744073709551616 * 18446744073709551616 ≤ M * N := Int.mul_le_mul (by omega) (by omega) (by omega) (by omega)
      rw [wenc_out]
      cases s <;> simp only [Bool.false_eq_true, if_false, if_true] <;> omega
    · rw [decide_eq_false d]
      simp only [wide_Mul.j0, Bool.false_eq_true, if_false]
      rw [if_neg d]
      exact Mul_half k M N h l h' l' s _ (by omega) (by omega) (by omega) (by omega) hs rfl hKk
  · rw [if_neg c]
    simp only [wide_Mul.j0, Bool.false_eq_true, if_false]
    by_cases d : N / 18446744073709551616 > 0
    · rw [if_pos d]
      exact Mul_half k N M h l h' l' s _ (by omega) (by omega) (by omega) (by omega) hs (by rw [Int.mul_comm N M]) hKk
    · rw [if_neg d]
      exact Mul_half k M N h l h' l' s _ (by omega) (by omega) (by omega) (by omega) hs rfl hKk
theorem WOf_is (n : Int) (hn : Hi n) : wide_Of.f n = some (n / 18446744073709551616, n % 18446744073709551616) := by
  unfold Hi at hn
  unfold wide_Of.f
  rw [wrap_u64]
  exact pair2 (by omega) rfl
/-- -1, 0 or 1. -/
def cmp (x y : Int) : Int := if x < y then -1 else if x > y then 1 else 0
theorem WCmp_is (h l h' l' : Int) (hl : U l) (hl' : U l') : wide_Cmp.f h l h' l' = some (cmp (h * 18446744073709551616 + l) (h' * 18446744073709551616 + l')) := by
  unfold wide_Cmp.f cmp
  unfold U at *
  simp only [Bool.and_eq_true, beq_iff_eq]
  by_cases c : h = h' ∧ l = l'
  · rw [if_pos c, if_neg (by omega), if_neg (by omega)]
  · rw [if_neg c]
    by_cases d : h < h'
    · rw [if_pos d, if_pos (by omega)]
    · rw [if_neg d]
      by_cases e : h = h'
      · rw [if_pos e]
        by_cases f : l < l'
        · rw [if_pos f, if_pos (by omega)]
        · rw [if_neg f, if_neg (by omega), if_pos (by omega)]
      · rw [if_neg e, if_neg (by omega), if_pos (by omega)]
theorem WSign_is (h l : Int) (hl : U l) : wide_Sign.f h l = some (cmp (h * 18446744073709551616 + l) 0) := by
  unfold wide_Sign.f
  rw [WCmp_is h l 0 0 hl (by unfold U; omega)]; rfl
/-- What is left, doubled, with the next bit: its limbs. -/
theorem twice_limbs (r b : Int) (h0 : 0 ≤ r) (h1 : r < 340282366920938463463374607431768211456) (hb : b = 0 ∨ b = 1) :
    Go.bits .or .u64 (IntKind.u64.wrap (r % 18446744073709551616 * 2)) b = (2 * r + b) % 18446744073709551616 ∧
    Go.bits .or .u64 (IntKind.u64.wrap (r / 18446744073709551616 * 2)) (r % 18446744073709551616 / 9223372036854775808) = (2 * r + b) % 340282366920938463463374607431768211456 / 18446744073709551616 ∧
    r / 18446744073709551616 / 9223372036854775808 = (2 * r + b) / 340282366920938463463374607431768211456 := by
  rw [wrap_u64, wrap_u64, or_one _ _ (by omega) (by omega) (by omega) (by omega) (by omega), or_one _ _ (by omega) (by omega) (by omega) (by omega) (by omega)]
  omega
theorem less_limbs (s n : Int) (hn : 0 < n) (hn' : n < 340282366920938463463374607431768211456) (h : n ≤ s) (h' : s < 2 * n) :
    subLo (s % 18446744073709551616) (n % 18446744073709551616) 0 = (s - n) % 18446744073709551616 ∧
    subLo (s % 340282366920938463463374607431768211456 / 18446744073709551616) (n / 18446744073709551616) (subHi (s % 18446744073709551616) (n % 18446744073709551616) 0) = (s - n) / 18446744073709551616 := by
  have u0 := U_mod s
  have u1 := U_div (s % 340282366920938463463374607431768211456) (by omega) (by omega)
  have v0 := U_mod n
  have v1 := U_div n (by omega) hn'
  rw [subLo_is _ _ _ u0 v0 (by omega) (by omega), subLo_is _ _ _ u1 v1 (subHi_ge _ _ _) (subHi_le _ _ _), subHi_is _ _ _ u0 v0 (by omega) (by omega)]
  clear u0 u1 v0 v1
  refine ⟨by omega, ?_⟩
  split <;> omega
/-- The three tests of a round, as one. -/
theorem above_limbs (s n : Int) (h0 : 0 ≤ s) (h1 : s < 680564733841876926926749214863536422912) (hn : 0 < n) (hn' : n < 340282366920938463463374607431768211456) :
    (s / 340282366920938463463374607431768211456 = 1 → n ≤ s) ∧
    (¬ s / 340282366920938463463374607431768211456 = 1 → s % 340282366920938463463374607431768211456 / 18446744073709551616 > n / 18446744073709551616 → n ≤ s) ∧
    (¬ s / 340282366920938463463374607431768211456 = 1 → s % 340282366920938463463374607431768211456 / 18446744073709551616 = n / 18446744073709551616 → (s % 18446744073709551616 ≥ n % 18446744073709551616 ↔ n ≤ s)) ∧
    (¬ s / 340282366920938463463374607431768211456 = 1 → ¬ s % 340282366920938463463374607431768211456 / 18446744073709551616 > n / 18446744073709551616 → ¬ s % 340282366920938463463374607431768211456 / 18446744073709551616 = n / 18446744073709551616 → ¬ n ≤ s) := by
  refine ⟨fun _ => by omega, fun _ _ => by omega, fun _ _ => by omega, fun _ _ _ => by omega⟩
/-- The second half of a round of divided. -/
theorem divided_second (k : Nat) (A n r b : Int) (m : Nat) (R : Int × Int × Int × Int) (hm : m < 128) (hA : 0 ≤ A) (hA' : A < 340282366920938463463374607431768211456) (hn : 0 < n) (hn' : n < 340282366920938463463374607431768211456)
    (hb : b = A / 2 ^ m % 2) (hr : r = A / 2 ^ (m + 1) % n)
    (hK : wide_divided.l0 k ((m : Int) - 1) (A % 18446744073709551616) (A / 18446744073709551616) (n % 18446744073709551616) (n / 18446744073709551616)
      (A / 2 ^ m / n * 2 ^ m % 18446744073709551616) (A / 2 ^ m / n * 2 ^ m / 18446744073709551616) (A / 2 ^ m % n % 18446744073709551616) (A / 2 ^ m % n / 18446744073709551616) = some R) (c : Bool) (hc : c = decide (n ≤ 2 * r + b)) :
    wide_divided.j1 (k + 1) (m : Int) c (A % 18446744073709551616) (A / 18446744073709551616) (n % 18446744073709551616) (n / 18446744073709551616)
      (A / 2 ^ (m + 1) / n * 2 ^ (m + 1) % 18446744073709551616) (A / 2 ^ (m + 1) / n * 2 ^ (m + 1) / 18446744073709551616) ((2 * r + b) % 18446744073709551616) ((2 * r + b) % 340282366920938463463374607431768211456 / 18446744073709551616) = some R := by
  have hr0 := Int.emod_nonneg (A / 2 ^ (m + 1)) (show n ≠ 0 by omega)
  have hr1 := Int.emod_lt_of_pos (A / 2 ^ (m + 1)) hn
  obtain ⟨q0, q1, qd⟩ := quo_room A n m hA hA' hn
  obtain ⟨nl, ng⟩ := quo_next A n m hA hn b hb
  rw [← hr] at hr0 hr1 nl ng
  have hb0 : b = 0 ∨ b = 1 := by rw [hb]; omega
  have hnext : wrap64 ((m : Int) - 1) = (m : Int) - 1 := by clear hK; unfold wrap64; omega
  simp only [wide_divided.j1]
  by_cases g : n ≤ 2 * r + b
  · obtain ⟨e2, e3⟩ := ng g
    obtain ⟨lo, hi'⟩ := less_limbs (2 * r + b) n hn hn' g (by omega)
    rw [hc, decide_eq_true g, if_pos rfl, if_pos (subHi_le _ _ _), lo, hi', tdiv_at m hm, tmod_at, hnext, shl_one _ (by omega) (by omega), Int.toNat_natCast, ← e2]
    by_cases c6 : 64 ≤ m
    · obtain ⟨s1, s2⟩ := set_high _ m c6 hm q0 q1 qd
      rw [if_neg (by omega), if_pos (by omega), if_pos (by omega), show m % 64 = m - 64 by omega, s1, s2, ← e3]
      exact hK
    · obtain ⟨s1, s2⟩ := set_low _ m (by omega) q0 qd
      rw [if_pos (by omega), if_pos (by omega), show m % 64 = m by omega, s1, s2, ← e3]
      exact hK
  · obtain ⟨e2, e3⟩ := nl (by omega)
    have hlt : 2 * r + b < n := by omega
    rw [hc, decide_eq_false g, if_neg (by decide), hnext, ← e2, ← e3, Int.emod_eq_of_lt (a := A / 2 ^ m % n) (b := 340282366920938463463374607431768211456) (by rw [e2]; omega) (by rw [e2]; omega)]
    exact hK
theorem j2_is_j1 (k : Nat) (x8 : Int) (x64 : Bool) (a0 a1 b0 b1 c0 c1 d0 d1 : Int) : wide_divided.j2 (k + 1) x8 x64 a0 a1 b0 b1 c0 c1 d0 d1 = wide_divided.j1 (k + 1) x8 x64 a0 a1 b0 b1 c0 c1 d0 d1 := by
  simp only [wide_divided.j1, wide_divided.j2]
/-- divided, from the round of bit m - 1 on: the limbs of A, of n; of the quotient so far and of what is left so far. -/
theorem divided_from (A n : Int) (hA : 0 ≤ A) (hA' : A < 340282366920938463463374607431768211456) (hn : 0 < n) (hn' : n < 340282366920938463463374607431768211456) (m : Nat) : m ≤ 128 →
    Ev (fun k => wide_divided.l0 k ((m : Int) - 1) (A % 18446744073709551616) (A / 18446744073709551616) (n % 18446744073709551616) (n / 18446744073709551616)
      (A / 2 ^ m / n * 2 ^ m % 18446744073709551616) (A / 2 ^ m / n * 2 ^ m / 18446744073709551616) (A / 2 ^ m % n % 18446744073709551616) (A / 2 ^ m % n / 18446744073709551616))
      (A / n % 18446744073709551616, A / n / 18446744073709551616, A % n % 18446744073709551616, A % n / 18446744073709551616) := by
  induction m with
  | zero =>
    intro _
    refine ⟨1, fun k hk => ?_⟩
    obtain ⟨k, rfl⟩ : ∃ j, k = j + 1 := ⟨k - 1, by omega⟩
    simp only [wide_divided.l0]
    rw [if_neg (by decide), Int.pow_zero, Int.ediv_one, Int.mul_one]
  | succ m ih =>
    intro hm
    obtain ⟨K, hK⟩ := ih (by omega)
    refine ⟨K + 2, fun k hk => ?_⟩
    obtain ⟨k, rfl⟩ : ∃ j, k = j + 2 := ⟨k - 2, by omega⟩
    have hi : (((m + 1 : Nat) : Int) - 1) = m := by omega
    have sec := divided_second k A n _ _ m _ (by omega) hA hA' hn hn' rfl rfl (hK k (by omega))
    have hr0 := Int.emod_nonneg (A / 2 ^ (m + 1)) (show n ≠ 0 by omega)
    have hr1 := Int.emod_lt_of_pos (A / 2 ^ (m + 1)) hn
    have hb : A / 2 ^ m % 2 = 0 ∨ A / 2 ^ m % 2 = 1 := by clear sec hr0 hr1; omega
    obtain ⟨l1, l2, l3⟩ := twice_limbs (A / 2 ^ (m + 1) % n) (A / 2 ^ m % 2) hr0 (Int.lt_trans hr1 hn') hb
    obtain ⟨t1, t2, t3, t4⟩ := above_limbs (2 * (A / 2 ^ (m + 1) % n) + A / 2 ^ m % 2) n (by clear sec l1 l2 l3; omega) (by clear sec l1 l2 l3; omega) hn hn'
    clear hK ih
    show wide_divided.l0 (k + 2) _ _ _ _ _ _ _ _ _ = _
    simp only [wide_divided.l0]
    rw [hi, if_pos (by clear sec l1 l2 l3 t1 t2 t3 t4; omega), tdiv_at m (by omega), tmod_at]
    by_cases c6 : 64 ≤ m
    · rw [if_neg (by clear sec l1 l2 l3 t1 t2 t3 t4; omega), if_pos (by clear sec l1 l2 l3 t1 t2 t3 t4; omega), if_pos (by clear sec l1 l2 l3 t1 t2 t3 t4; omega), bit_high A m hA hA' c6 (by omega), l1, l2, l3]
      simp only [j2_is_j1]
      split
      · exact sec _ (decide_eq_true (t1 ‹_›)).symm
      · split
        · exact sec _ (decide_eq_true (t2 ‹_› ‹_›)).symm
        · split
          · exact sec _ (decide_eq_decide.2 (t3 ‹_› ‹_›))
          · exact sec _ (decide_eq_false (t4 ‹_› ‹_› ‹_›)).symm
    · rw [if_pos (by clear sec l1 l2 l3 t1 t2 t3 t4; omega), if_pos (by clear sec l1 l2 l3 t1 t2 t3 t4; omega), bit_low A m (by omega), l1, l2, l3]
      split
      · exact sec _ (decide_eq_true (t1 ‹_›)).symm
      · split
        · exact sec _ (decide_eq_true (t2 ‹_› ‹_›)).symm
        · split
          · exact sec _ (decide_eq_decide.2 (t3 ‹_› ‹_›))
          · exact sec _ (decide_eq_false (t4 ‹_› ‹_› ‹_›)).symm
theorem divided_is (A n : Int) (hA : 0 ≤ A) (hA' : A < 340282366920938463463374607431768211456) (hn : 0 < n) (hn' : n < 340282366920938463463374607431768211456) :
    Ev (fun k => wide_divided.f k (A % 18446744073709551616) (A / 18446744073709551616) (n % 18446744073709551616) (n / 18446744073709551616))
      (A / n % 18446744073709551616, A / n / 18446744073709551616, A % n % 18446744073709551616, A % n / 18446744073709551616) := by
  have e := divided_from A n hA hA' hn hn' 128 (by omega)
  have z : A / 2 ^ 128 = 0 := by
    rw [show (2 : Int) ^ 128 = 340282366920938463463374607431768211456 by decide]; omega
  rw [z] at e
  simp only [Int.zero_emod, Int.zero_ediv, Int.zero_mul] at e
  exact e
/-- A text of a list of bytes. -/
def bs (l : List UInt8) : ByteArray := ⟨l.toArray⟩
theorem bs_size (l : List UInt8) : (bs l).size = l.length := by simp [bs, ByteArray.size]
theorem bs_app (a b : List UInt8) : bs a ++ bs b = bs (a ++ b) := by
  apply ByteArray.ext; simp [bs]
theorem bs_of (s : ByteArray) : bs s.data.toList = s := by
  apply ByteArray.ext; simp [bs]
theorem bs_list (l : List UInt8) : (bs l).toList = l := by
  rw [ByteArray.toList_eq]; simp [bs]
/-- The digit of a number below ten. -/
def dig (u : Nat) : UInt8 := UInt8.ofNat (48 + u)
theorem dec_small {u : Nat} (h : u < 10) : Lib.decDigits u = [dig u] := by rw [Lib.decDigits, dif_pos h]; rfl
theorem dec_big {u : Nat} (h : ¬ u < 10) : Lib.decDigits u = Lib.decDigits (u / 10) ++ [dig (u % 10)] := by rw [Lib.decDigits, dif_neg h]; rfl
theorem dec_len {u k : Nat} (h : u < 10 ^ (k + 1)) : (Lib.decDigits u).length ≤ k + 1 := by
  induction k generalizing u with
  | zero => rw [dec_small (by simpa using h)]; simp
  | succ k ih =>
    by_cases c : u < 10
    · rw [dec_small c]; simp
    · rw [dec_big c, List.length_append]
      have := ih (u := u / 10) (by rw [Nat.pow_succ] at h; omega)
      simp; omega
theorem dec_pos (u : Nat) : 1 ≤ (Lib.decDigits u).length := by rw [Lib.decDigits_length]; exact Lib.nDigits_pos u
/-- A numeral with 0 ahead, k digits in all. -/
def pad (k b : Nat) : List UInt8 := List.replicate (k - (Lib.decDigits b).length) 48 ++ Lib.decDigits b
theorem pad_one {b : Nat} (h : b < 10) : pad 1 b = [dig b] := by unfold pad; rw [dec_small h]; rfl
theorem pad_succ (k b : Nat) (hk : 1 ≤ k) (h : b < 10 ^ (k + 1)) : pad (k + 1) b = pad k (b / 10) ++ [dig (b % 10)] := by
  unfold pad
  by_cases c : b < 10
  · rw [dec_small c, show b / 10 = 0 by omega, show b % 10 = b by omega, dec_small (by decide)]
    simp only [List.length_singleton]
    rw [show k + 1 - 1 = (k - 1) + 1 by omega, List.replicate_succ', List.append_assoc, List.append_assoc]
    rfl
  · have hl := dec_pos (b / 10)
    rw [dec_big c, List.length_append, List.append_assoc]
    simp only [List.length_singleton]
    rw [show k + 1 - ((Lib.decDigits (b / 10)).length + 1) = k - (Lib.decDigits (b / 10)).length by omega]
theorem dec_split (a k b : Nat) (ha : 0 < a) (hk : 1 ≤ k) (h : b < 10 ^ k) : Lib.decDigits (a * 10 ^ k + b) = Lib.decDigits a ++ pad k b := by
  obtain ⟨k, rfl⟩ : ∃ j, k = j + 1 := ⟨k - 1, by omega⟩
  induction k generalizing b with
  | zero =>
    have h : b < 10 := by simpa using h
    simp only [Nat.zero_add, Nat.pow_one]
    rw [dec_big (by omega), show (a * 10 + b) / 10 = a by omega, show (a * 10 + b) % 10 = b by omega, pad_one h]
  | succ k ih =>
    have hp : 1 ≤ 10 ^ (k + 1) := Nat.one_le_pow _ _ (by decide)
    have hm : a * 10 ^ (k + 1) ≥ 10 ^ (k + 1) := Nat.le_mul_of_pos_left _ ha
    have e : a * 10 ^ (k + 1 + 1) = (a * 10 ^ (k + 1)) * 10 := by rw [Nat.pow_succ, Nat.mul_assoc]
    rw [pad_succ (k + 1) b (by omega) h, ← List.append_assoc, ← ih (b / 10) (by omega) (by rw [Nat.pow_succ] at h; omega), e]
    have hb : 10 ≤ 10 ^ (k + 1) := by rw [Nat.pow_succ]; have : 1 ≤ 10 ^ k := Nat.one_le_pow _ _ (by decide); omega
    rw [dec_big (by omega), show (a * 10 ^ (k + 1) * 10 + b) / 10 = a * 10 ^ (k + 1) + b / 10 by omega, show (a * 10 ^ (k + 1) * 10 + b) % 10 = b % 10 by omega]
theorem repeat_zero (n : Nat) : Lib.repeatL [48] n = List.replicate n 48 := by
  have := Lib.repeatL_replicate 48 1 n
  simpa using this
/-- A numeral tells its number. -/
def decVal (l : List UInt8) : Nat := l.foldl (fun n c => n * 10 + (c.toNat - 48)) 0
theorem decVal_snoc (l : List UInt8) (c : UInt8) : decVal (l ++ [c]) = decVal l * 10 + (c.toNat - 48) := by simp [decVal]
theorem dig_toNat {u : Nat} (h : u < 10) : (dig u).toNat = 48 + u := by
  unfold dig; rw [UInt8.toNat_ofNat']; omega
theorem dec_lower (u : Nat) (h : 0 < u) : 10 ^ ((Lib.decDigits u).length - 1) ≤ u := by
  induction u using Nat.strongRecOn with
  | ind u ih =>
    by_cases c : u < 10
    · rw [dec_small c]; simp; omega
    · have hp := dec_pos (u / 10)
      have := ih (u / 10) (by omega) (by omega)
      rw [dec_big c, List.length_append, List.length_singleton, show (Lib.decDigits (u / 10)).length + 1 - 1 = ((Lib.decDigits (u / 10)).length - 1) + 1 by omega, Nat.pow_succ]
      omega
/-- Digit by digit. -/
theorem dec_of (l : List UInt8) (hd : ∀ c ∈ l, 48 ≤ c.toNat ∧ c.toNat ≤ 57) (h0 : l ≠ []) (h : l.length = 1 ∨ ∃ c m, l = c :: m ∧ 49 ≤ c.toNat) : Lib.decDigits (decVal l) = l := by
  obtain ⟨n, hn⟩ : ∃ n, l.length = n + 1 := ⟨l.length - 1, by have := List.length_pos_iff.2 h0; omega⟩
  induction n generalizing l with
  | zero =>
    match l, hn with
    | [c], _ =>
      have := hd c (by simp)
      have e : decVal [c] = c.toNat - 48 := by simp [decVal]
      rw [e, dec_small (by omega)]
      congr 1
      apply UInt8.toNat_inj.1
      rw [dig_toNat (by omega)]; omega
  | succ n ih =>
    obtain ⟨a, c, rfl⟩ : ∃ a c, l = a ++ [c] := ⟨l.dropLast, l.getLast h0, (List.dropLast_concat_getLast h0).symm⟩
    rw [List.length_append, List.length_singleton] at hn
    have ha : a ≠ [] := by intro e; subst e; simp at hn
    have hc := hd c (by simp)
    have h' : ∃ x m, a = x :: m ∧ 49 ≤ x.toNat := by
      rcases h with h | ⟨x, m, e, hx⟩
      · rw [List.length_append, List.length_singleton] at h; omega
      · cases a with
        | nil => exact absurd rfl ha
        | cons y a => simp at e; exact ⟨y, a, rfl, by rw [e.1]; exact hx⟩
    have e := ih a (fun x hx => hd x (by simp [hx])) ha (.inr h') (by omega)
    have hv : 0 < decVal a := by
      rcases Nat.eq_zero_or_pos (decVal a) with z | z
      · rw [z, dec_small (by decide)] at e
        obtain ⟨x, m, e', hx⟩ := h'
        rw [e'] at e
        simp at e
        rw [← e.1] at hx
        exact absurd hx (by decide)
      · exact z
    rw [decVal_snoc, dec_big (by omega), show (decVal a * 10 + (c.toNat - 48)) / 10 = decVal a by omega, e]
    congr 2
    apply UInt8.toNat_inj.1
    rw [dig_toNat (by omega)]; omega
theorem fmt_is (u : Int) (hu : U u) : strconv_FormatUint.f u 10 = some (bs (Lib.decDigits u.toNat)) := by
  unfold strconv_FormatUint.f
  rw [if_pos ⟨hu.1, hu.2, rfl⟩]; rfl
theorem rep_is (n : Nat) (hn : n ≤ 1000) : strings_Repeat.f (⟨#[48]⟩ : ByteArray) (n : Int) = some (bs (List.replicate n 48)) := by
  unfold strings_Repeat.f
  rw [if_pos ⟨by omega, by omega, by decide⟩, Int.toNat_natCast, show (⟨#[48]⟩ : ByteArray).data.toList = [48] from rfl, repeat_zero]; rfl
def sgn (h : Int) : List UInt8 := if h < 0 then [45] else []
theorem minus_is (s : List UInt8) : (⟨#[45]⟩ : ByteArray) ++ bs s = bs (45 :: s) := bs_app [45] s
theorem WPrint_from (h l : Int) (j : Nat) : ∀ (M : Int) (s : List UInt8), 0 ≤ M → M < 340282366920938463463374607431768211456 → M < 10 ^ (19 * j) → s.length + 19 * j ≤ 1000 →
    Ev (fun k => wide_Print.l0 k (bs s) h l (M % 18446744073709551616) (M / 18446744073709551616)) (bs (sgn h ++ (Lib.decDigits M.toNat ++ s))) := by
  induction j with
  | zero =>
    intro M s h0 h1 h2 h3
    have : M = 0 := by simp at h2; omega
    subst this
    obtain ⟨K, hK⟩ := divided_is 0 10000000000000000000 (by omega) (by omega) (by omega) (by omega)
    refine ⟨K + 1, fun k hk => ?_⟩
    obtain ⟨k, rfl⟩ : ∃ j, k = j + 1 := ⟨k - 1, by omega⟩
    have e := hK k (by omega)
    simp only [show (10000000000000000000 : Int) % 18446744073709551616 = 10000000000000000000 by decide, show (10000000000000000000 : Int) / 18446744073709551616 = 0 by decide, show (0 : Int) / 10000000000000000000 = 0 by decide, show (0 : Int) % 10000000000000000000 = 0 by decide, show (0 : Int) / 18446744073709551616 = 0 by decide, show (0 : Int) % 18446744073709551616 = 0 by decide] at e
    simp only [wide_Print.l0, show (0 : Int) / 18446744073709551616 = 0 by decide, show (0 : Int) % 18446744073709551616 = 0 by decide, e, Option.bind_some]
    rw [fmt_is 0 (by unfold U; omega)]
    simp only [Option.bind_some, if_true]
    rw [bs_app, bs_size, bs_size, bs_size]
    have hl : (Lib.decDigits (0 : Int).toNat).length ≤ 1 := dec_len (k := 0) (by decide)
    rw [if_pos (by omega), minus_is]
    unfold sgn
    by_cases c : h < 0
    · rw [if_pos c, if_pos (by rw [List.length_append]; omega), if_pos c]; rfl
    · rw [if_neg c, if_neg c]; rfl
  | succ j ih =>
    intro M s h0 h1 h2 h3
    obtain ⟨K, hK⟩ := divided_is M 10000000000000000000 h0 h1 (by omega) (by omega)
    simp only [show (10000000000000000000 : Int) % 18446744073709551616 = 10000000000000000000 by decide, show (10000000000000000000 : Int) / 18446744073709551616 = 0 by decide] at hK
    have er : M % 10000000000000000000 % 18446744073709551616 = M % 10000000000000000000 := by omega
    have ur : U (M % 10000000000000000000) := by unfold U; omega
    have hl : (Lib.decDigits (M % 10000000000000000000).toNat).length ≤ 19 := dec_len (k := 18) (by
      rw [show (10 : Nat) ^ (18 + 1) = 10000000000000000000 by decide]; omega)
    have hp := dec_pos (M % 10000000000000000000).toNat
    have ew : wrap64 (19 - ((Lib.decDigits (M % 10000000000000000000).toNat).length : Int)) = ((19 - (Lib.decDigits (M % 10000000000000000000).toNat).length : Nat) : Int) := by unfold wrap64; omega
    by_cases c : M / 10000000000000000000 = 0
    · refine ⟨K + 1, fun k hk => ?_⟩
      obtain ⟨k, rfl⟩ : ∃ j, k = j + 1 := ⟨k - 1, by omega⟩
      have e := hK k (by omega)
      have eM : M % 10000000000000000000 = M := by omega
      rw [eM] at hl hp ur
      simp only [c, show (0 : Int) / 18446744073709551616 = 0 by decide, show (0 : Int) % 18446744073709551616 = 0 by decide, er, eM] at e
      simp only [wide_Print.l0, e, Option.bind_some]
      rw [show M % 18446744073709551616 = M by unfold U at ur; omega, fmt_is M ur]
      simp only [Option.bind_some, if_true]
      rw [bs_app, bs_size, bs_size, bs_size, if_pos (by omega), minus_is]
      unfold sgn
      by_cases c : h < 0
      · rw [if_pos c, if_pos (by rw [List.length_append]; omega), if_pos c]; rfl
      · rw [if_neg c, if_neg c]; rfl
    · have q0 : 0 < M / 10000000000000000000 := by omega
      obtain ⟨K', hK'⟩ := ih (M / 10000000000000000000) (pad 19 (M % 10000000000000000000).toNat ++ s) (by omega) (by omega) (by
          rw [show 19 * (j + 1) = 19 * j + 19 by omega, Int.pow_add, show (10 : Int) ^ 19 = 10000000000000000000 by decide] at h2
          exact Int.ediv_lt_of_lt_mul (by decide) h2) (by
          unfold pad
          rw [List.length_append, List.length_append, List.length_replicate]; omega)
      have eD : Lib.decDigits (M / 10000000000000000000).toNat ++ (pad 19 (M % 10000000000000000000).toNat ++ s) = Lib.decDigits M.toNat ++ s := by
        rw [← List.append_assoc, ← dec_split _ 19 _ (by omega) (by decide) (by rw [show (10 : Nat) ^ 19 = 10000000000000000000 by decide]; omega)]
        congr 2
        rw [show (10 : Nat) ^ 19 = 10000000000000000000 by decide]; omega
      rw [eD] at hK'
      refine ⟨max K K' + 1, fun k hk => ?_⟩
      obtain ⟨k, rfl⟩ : ∃ j, k = j + 1 := ⟨k - 1, by omega⟩
      have e := hK k (by omega)
      have e' := hK' k (by omega)
      simp only [er] at e
      simp only at e'
      have tail : (if (bs (List.replicate (19 - (Lib.decDigits (M % 10000000000000000000).toNat).length) 48)).size + (bs (Lib.decDigits (M % 10000000000000000000).toNat)).size ≤ 9223372036854775807 then (if (bs (List.replicate (19 - (Lib.decDigits (M % 10000000000000000000).toNat).length) 48) ++ bs (Lib.decDigits (M % 10000000000000000000).toNat)).size + (bs s).size ≤ 9223372036854775807 then (wide_Print.l0 k ((bs (List.replicate (19 - (Lib.decDigits (M % 10000000000000000000).toNat).length) 48) ++ bs (Lib.decDigits (M % 10000000000000000000).toNat)) ++ bs s) h l (M / 10000000000000000000 % 18446744073709551616) (M / 10000000000000000000 / 18446744073709551616)) else (none)) else (none)) = some (bs (sgn h ++ (Lib.decDigits M.toNat ++ s))) := by
        rw [bs_app, bs_app, bs_size, bs_size, bs_size, bs_size, List.length_append, List.length_replicate, if_pos (by omega), if_pos (by omega)]
        exact e'
      simp only [wide_Print.l0, e, Option.bind_some]
      rw [fmt_is _ ur]
      simp only [Option.bind_some]
      rw [bs_size, ew, rep_is _ (by omega)]
      simp only [Option.bind_some]
      rw [bs_size] at tail
      by_cases d : M / 10000000000000000000 % 18446744073709551616 = 0
      · rw [if_pos d, if_neg (by omega)]; exact tail
      · rw [if_neg d]; exact tail
theorem sgn_itoa (h l : Int) (hl : U l) : sgn h ++ (Lib.decDigits (mag (h * 18446744073709551616 + l)).toNat ++ []) = Lib.itoa (h * 18446744073709551616 + l) := by
  unfold sgn Lib.itoa U at *
  rw [List.append_nil]
  by_cases c : h < 0
  · rw [if_pos c, if_pos (by omega), mag_neg (by omega), show (-(h * 18446744073709551616 + l)).toNat = (h * 18446744073709551616 + l).natAbs by omega]; rfl
  · rw [if_neg c, if_neg (by omega), mag_pos (by omega)]; rfl
theorem WPrint_is (h l : Int) (hh : Hi h) (hl : U l) : Ev (fun k => wide_Print.f k h l) (bs (Lib.itoa (h * 18446744073709551616 + l))) := by
  have m := mag_lt h l hh hl
  have n := mag_nonneg (h * 18446744073709551616 + l)
  simp only [wide_Print.f]
  rw [amount_is h l hh hl, ← sgn_itoa h l hl]
  simp only [Option.bind_some]
  exact WPrint_from h l 3 _ [] n (by omega) (by rw [show (10 : Int) ^ (19 * 3) = 1000000000000000000000000000000000000000000000000000000000 by decide]; omega) (by simp)
theorem alive_is : Ev (fun k => tumblerlaw01_alive.f k) true := by
  obtain ⟨K1, h1⟩ := Mul_is (-1) 18446744073709551609 0 6 (by unfold Hi; omega) (by unfold U; omega) (by unfold Hi; omega) (by unfold U; omega)
  obtain ⟨K2, h2⟩ := WPrint_is (-1) 18446744073709551574 (by unfold Hi; omega) (by unfold U; omega)
  refine ⟨max K1 K2, fun k hk => ?_⟩
  have e1 := h1 k (by omega)
  have e2 := h2 k (by omega)
  rw [show wenc ((-1 * 18446744073709551616 + 18446744073709551609) * (0 * 18446744073709551616 + 6)) = (-1, 18446744073709551574, 0) by decide] at e1
  have e3 : Lib.itoa (-1 * 18446744073709551616 + 18446744073709551574) = [45, 52, 50] := by
    rw [show (-1 * 18446744073709551616 + 18446744073709551574 : Int) = -42 by decide]
    unfold Lib.itoa
    rw [if_pos (by decide), show Int.natAbs (-42) = 42 by decide, dec_big (by decide), dec_small (by decide)]
    decide
  rw [e3] at e2
  simp only at e1 e2
  simp only [tumblerlaw01_alive.f]
  rw [WOf_is (-7) (by unfold Hi; omega), WOf_is 6 (by unfold Hi; omega)]
  simp only [Option.bind_some, show (-7 : Int) / 18446744073709551616 = -1 by decide, show (-7 : Int) % 18446744073709551616 = 18446744073709551609 by decide, show (6 : Int) / 18446744073709551616 = 0 by decide, show (6 : Int) % 18446744073709551616 = 6 by decide, e1, e2, bs_list, if_true]
  rw [WSign_is _ _ (by unfold U; omega)]
  rfl
theorem bs_extract (l : List UInt8) (i j : Nat) : (bs l).extract i j = bs ((l.drop i).take (j - i)) := by
  exact ByteArray.extract_mk l i j
theorem bt_bs (l : List UInt8) (i : Nat) (h : i < l.length) : bt (bs l) (i : Int) = (l[i].toNat : Int) := by
  have h' : i < (bs l).size := by rw [bs_size]; exact h
  have e := bt_at (bs l) (i : Int) (by rw [Int.toNat_natCast]; exact h')
  rw [← e]
  congr 1
/-- A minus ahead is cut off. -/
def cutm : List UInt8 → List UInt8 × Bool
  | c :: t => if c = 45 then (t, true) else (c :: t, false)
  | [] => ([], false)
theorem cutm_len (l : List UInt8) : (cutm l).1.length ≤ l.length := by
  cases l with
  | nil => simp [cutm]
  | cons c t =>
    unfold cutm
    by_cases h : c = 45
    · simp [h]
    · simp [h]
/-- Its first sign is no 0. -/
def headOk : List UInt8 → Bool
  | c :: _ => decide (c.toNat ≠ 48)
  | [] => false
/-- Decimal digits, one at least, no 0 ahead of others. -/
def okNum (l : List UInt8) : Bool := l.all (fun c => decide (48 ≤ c.toNat) && decide (c.toNat ≤ 57)) && (decide (l = [48]) || headOk l)
theorem okNum_digits {l : List UInt8} (h : okNum l = true) : ∀ c ∈ l, 48 ≤ c.toNat ∧ c.toNat ≤ 57 := by
  unfold okNum at h
  simp only [Bool.and_eq_true, List.all_eq_true, decide_eq_true_eq] at h
  exact h.1
theorem okNum_head {l : List UInt8} (h : okNum l = true) : l = [48] ∨ ∃ c t, l = c :: t ∧ 49 ≤ c.toNat := by
  have hd := okNum_digits h
  unfold okNum at h
  simp only [Bool.and_eq_true, Bool.or_eq_true, decide_eq_true_eq] at h
  rcases h.2 with g | g
  · exact .inl g
  · cases l with
    | nil => simp [headOk] at g
    | cons c t =>
      have := hd c (by simp)
      simp only [headOk, decide_eq_true_eq] at g
      exact .inr ⟨c, t, rfl, by omega⟩
theorem okNum_dec {l : List UInt8} (h : okNum l = true) : Lib.decDigits (decVal l) = l := by
  rcases okNum_head h with g | ⟨c, t, g, hc⟩
  · subst g; exact dec_of _ (okNum_digits h) (by simp) (.inl rfl)
  · exact dec_of _ (okNum_digits h) (by rw [g]; simp) (.inr ⟨c, t, g, hc⟩)
theorem decVal_app_le (a b : List UInt8) : decVal a ≤ decVal (a ++ b) := by
  have : ∀ n, ∀ b : List UInt8, b.length = n → decVal a ≤ decVal (a ++ b) := by
    intro n
    induction n with
    | zero => intro b hb; obtain rfl := List.length_eq_zero_iff.1 hb; simp
    | succ n ih =>
      intro b hb
      obtain ⟨c, x, rfl⟩ : ∃ c x, b = c ++ [x] := ⟨b.dropLast, b.getLast (by intro e; subst e; simp at hb), (List.dropLast_concat_getLast _).symm⟩
      have := ih c (by simpa using hb)
      rw [← List.append_assoc, decVal_snoc]; omega
  exact this _ b rfl
theorem decVal_take_le (l : List UInt8) (i : Nat) : decVal (l.take i) ≤ decVal l := by
  have := decVal_app_le (l.take i) (l.drop i)
  rwa [List.take_append_drop] at this
theorem decVal_take_succ (l : List UInt8) (i : Nat) (h : i < l.length) : decVal (l.take (i + 1)) = decVal (l.take i) * 10 + (l[i].toNat - 48) := by
  rw [List.take_succ_eq_append_getElem h, decVal_snoc]
/-- A long numeral is great. -/
theorem okNum_great {l : List UInt8} (h : okNum l = true) (n : Nat) (hn : n < l.length) (h1 : 1 ≤ n) : 10 ^ n ≤ decVal l := by
  have e := okNum_dec h
  have p : 0 < decVal l := by
    rcases Nat.eq_zero_or_pos (decVal l) with z | z
    · rw [z, dec_small (by decide)] at e
      rw [← e] at hn; simp at hn; omega
    · exact z
  have := dec_lower (decVal l) p
  rw [e] at this
  exact Nat.le_trans (Nat.pow_le_pow_right (by decide) (by omega)) this
/-- The signed number of digits. -/
def sgv (b : Bool) (n : Nat) : Int := if b = true then -(n : Int) else (n : Int)
def parseW (l : List UInt8) : Int × Int × Int :=
  if okNum (cutm l).1 = false ∨ ((cutm l).2 = true ∧ (cutm l).1 = [48]) then (0, 0, 12) else wenc (sgv (cutm l).2 (decVal (cutm l).1))
theorem wenc_great (b : Bool) (n : Nat) (h : 170141183460469231731687303715884105728 < (n : Int)) : wenc (sgv b n) = (0, 0, 10) := by
  rw [wenc_out]
  unfold sgv
  split <;> omega
theorem HasPrefix_is (l : List UInt8) : stringslite_HasPrefix.f (bs l) (⟨#[45]⟩ : ByteArray) = some ((cutm l).2) := by
  have e1 : ((⟨#[45]⟩ : ByteArray).size : Int) = 1 := rfl
  have e2 : ((⟨#[45]⟩ : ByteArray).toList) = [45] := bs_list [45]
  unfold stringslite_HasPrefix.f
  rw [e1, bs_size, e2]
  cases l with
  | nil => simp [cutm]
  | cons c t =>
    rw [if_pos (by simp; omega), if_pos (by decide), if_pos (by simp; omega), show (1 : Int).toNat = 1 from rfl, bs_extract, bs_list]
    unfold cutm
    by_cases h : c = 45
    · subst h; simp
    · simp [h]
theorem CutPrefix_is (l : List UInt8) : strings_CutPrefix.f (bs l) (⟨#[45]⟩ : ByteArray) = some (bs (cutm l).1, (cutm l).2) := by
  have e1 : ((⟨#[45]⟩ : ByteArray).size : Int) = 1 := rfl
  unfold strings_CutPrefix.f stringslite_CutPrefix.f
  rw [HasPrefix_is]
  simp only [Option.bind_some]
  rw [e1, bs_size]
  cases l with
  | nil => simp [cutm]
  | cons c t =>
    unfold cutm
    by_cases h : c = 45
    · subst h
      simp only [if_true]
      rw [if_pos (by decide), if_pos (by simp; omega), show (1 : Int).toNat = 1 from rfl, bs_extract]
      simp
    · simp [h]
theorem digits_from (l : List UInt8) (hs : l.length ≤ 2000000) (d : Nat) : ∀ i : Nat, i + d = l.length →
    Ev (fun k => wide_digits.l0 k (bs l) (l.length : Int) (i : Int)) ((l.drop i).all (fun c => decide (48 ≤ c.toNat) && decide (c.toNat ≤ 57)) && (decide (l = [48]) || headOk l)) := by
  induction d with
  | zero =>
    intro i hi
    refine ⟨1, fun k hk => ?_⟩
    obtain ⟨k, rfl⟩ : ∃ j, k = j + 1 := ⟨k - 1, by omega⟩
    simp only [wide_digits.l0]
    rw [if_neg (by omega), bs_list, bs_size, List.drop_of_length_le (by omega), List.all_nil, Bool.true_and]
    cases l with
    | nil => simp [headOk]
    | cons c t =>
      rw [if_neg (by simp), if_pos (by simp), show (0 : Int) = ((0 : Nat) : Int) from rfl, bt_bs (c :: t) 0 (by simp)]
      simp only [List.getElem_cons_zero]
      by_cases h : (c.toNat : Int) = 48
      · have hc : c = 48 := UInt8.toNat_inj.1 (by rw [show (48 : UInt8).toNat = 48 from rfl]; omega)
        subst hc
        rw [if_pos (by decide)]
        cases t with
        | nil => simp [headOk]
        | cons a b => simp [headOk]; omega
      · rw [if_neg (by simpa using h)]
        have : c.toNat ≠ 48 := by omega
        simp [headOk, this]
  | succ d ih =>
    intro i hi
    have hlt : i < l.length := by omega
    have hd : l.drop i = l[i] :: l.drop (i + 1) := List.drop_eq_getElem_cons hlt
    obtain ⟨K, hK⟩ := ih (i + 1) (by omega)
    refine ⟨K + 1, fun k hk => ?_⟩
    obtain ⟨k, rfl⟩ : ∃ j, k = j + 1 := ⟨k - 1, by omega⟩
    have e := hK k (by omega)
    have e1 : wrap64 ((i : Int) + 1) = ((i + 1 : Nat) : Int) := by unfold wrap64; omega
    simp only at e
    simp only [wide_digits.l0]
    rw [if_pos (by omega), if_pos (by omega), if_pos (by rw [bs_size]; omega), bt_bs l i hlt, e1, e, hd, List.all_cons]
    by_cases c1 : l[i].toNat < 48
    · rw [if_pos (by omega), decide_eq_false (show ¬ 48 ≤ l[i].toNat by omega)]; simp
    · rw [if_neg (by omega), decide_eq_true (show 48 ≤ l[i].toNat by omega)]
      by_cases c2 : l[i].toNat > 57
      · rw [if_pos (by omega), decide_eq_false (show ¬ l[i].toNat ≤ 57 by omega)]; simp
      · rw [if_neg (by omega), decide_eq_true (show l[i].toNat ≤ 57 by omega)]; simp
theorem WDigits_is (l : List UInt8) (hs : l.length ≤ 2000000) : Ev (fun k => wide_digits.f k (bs l)) (okNum l) := by
  have h := digits_from l hs l.length 0 (by omega)
  simp only [wide_digits.f]
  rw [bs_size]
  exact h
/-- One digit more: its limbs. -/
theorem next_limbs (m c : Int) (h0 : 0 ≤ m) (h1 : m < 340282366920938463463374607431768211456) (hc : 0 ≤ c ∧ c ≤ 9) :
    addHi (m % 18446744073709551616 * 10 % 18446744073709551616) c 0 ≤ 1 ∧
    (m / 18446744073709551616 * 10 / 18446744073709551616 > 0 → 340282366920938463463374607431768211456 ≤ m * 10 + c) ∧
    (¬ m / 18446744073709551616 * 10 / 18446744073709551616 > 0 → (addHi (m / 18446744073709551616 * 10 % 18446744073709551616) (m % 18446744073709551616 * 10 / 18446744073709551616) (addHi (m % 18446744073709551616 * 10 % 18446744073709551616) c 0) > 0 ↔ 340282366920938463463374607431768211456 ≤ m * 10 + c)) ∧
    addLo (m % 18446744073709551616 * 10 % 18446744073709551616) c 0 = (m * 10 + c) % 18446744073709551616 ∧
    (m * 10 + c < 340282366920938463463374607431768211456 → addLo (m / 18446744073709551616 * 10 % 18446744073709551616) (m % 18446744073709551616 * 10 / 18446744073709551616) (addHi (m % 18446744073709551616 * 10 % 18446744073709551616) c 0) = (m * 10 + c) / 18446744073709551616) := by
  have u1 : U (m % 18446744073709551616 * 10 % 18446744073709551616) := U_mod _
  have u2 : U c := by unfold U; omega
  have u3 : U (m / 18446744073709551616 * 10 % 18446744073709551616) := U_mod _
  have u4 : U (m % 18446744073709551616 * 10 / 18446744073709551616) := by unfold U; omega
  have a1 := addHi_is _ _ 0 u1 u2 (by omega) (by omega)
  have c1 : 0 ≤ (m % 18446744073709551616 * 10 % 18446744073709551616 + c + 0) / 18446744073709551616 ∧ (m % 18446744073709551616 * 10 % 18446744073709551616 + c + 0) / 18446744073709551616 ≤ 1 := by omega
  rw [a1, addHi_is _ _ _ u3 u4 c1.1 c1.2, addLo_is _ _ 0 u1 u2 (by omega) (by omega), addLo_is _ _ _ u3 u4 c1.1 c1.2]
  clear a1 u1 u2 u3 u4
  have hm : m = m / 18446744073709551616 * 18446744073709551616 + m % 18446744073709551616 := by omega
  have he : 0 ≤ m / 18446744073709551616 ∧ m / 18446744073709551616 < 18446744073709551616 := by omega
  have ha : 0 ≤ m % 18446744073709551616 ∧ m % 18446744073709551616 < 18446744073709551616 := by omega
  generalize m / 18446744073709551616 = e at *
  generalize m % 18446744073709551616 = a at *
  have hf : a * 10 = a * 10 / 18446744073709551616 * 18446744073709551616 + a * 10 % 18446744073709551616 := by omega
  have hr : 0 ≤ a * 10 % 18446744073709551616 ∧ a * 10 % 18446744073709551616 < 18446744073709551616 := by omega
  have hf0 : 0 ≤ a * 10 / 18446744073709551616 ∧ a * 10 / 18446744073709551616 ≤ 9 := by omega
  generalize a * 10 / 18446744073709551616 = f at *
  generalize a * 10 % 18446744073709551616 = r at *
  have hs : r + c + 0 = (r + c + 0) / 18446744073709551616 * 18446744073709551616 + (r + c + 0) % 18446744073709551616 := by omega
  have hs0 : 0 ≤ (r + c + 0) % 18446744073709551616 ∧ (r + c + 0) % 18446744073709551616 < 18446744073709551616 := by omega
  have key : m * 10 + c = (e * 10 + f + (r + c + 0) / 18446744073709551616) * 18446744073709551616 + (r + c + 0) % 18446744073709551616 := by omega
  generalize (r + c + 0) / 18446744073709551616 = d at *
  generalize (r + c + 0) % 18446744073709551616 = s at *
  rw [key]
  clear hm hf hs key
  refine ⟨c1.2, ?_, ?_, by omega, ?_⟩
  · intro h; omega
  · intro h; omega
  · intro h; omega
theorem WParse_from (l : List UInt8) (hd : ∀ c ∈ l, 48 ≤ c.toNat ∧ c.toNat ≤ 57) (hs : l.length ≤ 1000) (b : Bool) (d : Nat) : ∀ (i : Nat), i + d = l.length → (decVal (l.take i) : Int) < 340282366920938463463374607431768211456 →
    Ev (fun k => wide_Parse.l0 k (bs l) b (l.length : Int) (i : Int) ((decVal (l.take i) : Int) % 18446744073709551616) ((decVal (l.take i) : Int) / 18446744073709551616)) (wenc (sgv b (decVal l))) := by
  induction d with
  | zero =>
    intro i hi hm
    have hu := U_div (decVal (l.take i) : Int) (by omega) hm
    refine ⟨2, fun k hk => ?_⟩
    obtain ⟨k, rfl⟩ : ∃ j, k = j + 2 := ⟨k - 2, by omega⟩
    simp only [wide_Parse.l0]
    rw [if_neg (by omega), signed_at k _ _ b (U_mod _) hu, U_join, wsigned_enc _ _ (by omega), List.take_of_length_le (by omega)]
    rfl
  | succ d ih =>
    intro i hi hm
    have hlt : i < l.length := by omega
    have dg := hd _ (List.getElem_mem hlt)
    have ts := decVal_take_succ l i hlt
    have le := decVal_take_le l (i + 1)
    have ec : ((l[i].toNat : Int) - 48) % 256 = ((l[i].toNat - 48 : Nat) : Int) := by omega
    have e1 : wrap64 ((i : Int) + 1) = ((i + 1 : Nat) : Int) := by unfold wrap64; omega
    have u0 := U_mod (decVal (l.take i) : Int)
    have u1 := U_div (decVal (l.take i) : Int) (by omega) hm
    have u10 : U 10 := by unfold U; omega
    obtain ⟨n1, n2, n3, n4, n5⟩ := next_limbs (decVal (l.take i)) ((l[i].toNat - 48 : Nat) : Int) (by omega) hm (by omega)
    have st : ∀ k, wide_Parse.l0 (k + 1) (bs l) b (l.length : Int) (i : Int) ((decVal (l.take i) : Int) % 18446744073709551616) ((decVal (l.take i) : Int) / 18446744073709551616) =
        if (decVal (l.take i) : Int) / 18446744073709551616 * 10 / 18446744073709551616 > 0 then some (0, 0, 10) else if addHi ((decVal (l.take i) : Int) / 18446744073709551616 * 10 % 18446744073709551616) ((decVal (l.take i) : Int) % 18446744073709551616 * 10 / 18446744073709551616) (addHi ((decVal (l.take i) : Int) % 18446744073709551616 * 10 % 18446744073709551616) ((l[i].toNat - 48 : Nat) : Int) 0) > 0 then some (0, 0, 10) else
          wide_Parse.l0 k (bs l) b (l.length : Int) ((i + 1 : Nat) : Int) (addLo ((decVal (l.take i) : Int) % 18446744073709551616 * 10 % 18446744073709551616) ((l[i].toNat - 48 : Nat) : Int) 0) (addLo ((decVal (l.take i) : Int) / 18446744073709551616 * 10 % 18446744073709551616) ((decVal (l.take i) : Int) % 18446744073709551616 * 10 / 18446744073709551616) (addHi ((decVal (l.take i) : Int) % 18446744073709551616 * 10 % 18446744073709551616) ((l[i].toNat - 48 : Nat) : Int) 0)) := by
      intro k
      simp only [wide_Parse.l0]
      rw [Mul64_is _ _ u1 u10, Mul64_is _ _ u0 u10, bt_bs l i hlt, ec, e1]
      simp only [Option.bind_some]
      rw [if_pos (show (i : Int) < (l.length : Int) by omega), if_pos (show (0 : Int) ≤ (i : Int) by omega), if_pos (show (i : Int) < ((bs l).size : Int) by rw [bs_size]; omega), if_pos n1]
    by_cases ov : 340282366920938463463374607431768211456 ≤ (decVal (l.take i) : Int) * 10 + ((l[i].toNat - 48 : Nat) : Int)
    · rw [wenc_great b (decVal l) (by omega)]
      refine ⟨1, fun k hk => ?_⟩
      obtain ⟨k, rfl⟩ : ∃ j, k = j + 1 := ⟨k - 1, by omega⟩
      simp only [st]
      by_cases c : (decVal (l.take i) : Int) / 18446744073709551616 * 10 / 18446744073709551616 > 0
      · rw [if_pos c]
      · rw [if_neg c, if_pos ((n3 c).2 ov)]
    · have c1 : ¬ (decVal (l.take i) : Int) / 18446744073709551616 * 10 / 18446744073709551616 > 0 := fun h => ov (n2 h)
      have em : (decVal (l.take i) : Int) * 10 + ((l[i].toNat - 48 : Nat) : Int) = (decVal (l.take (i + 1)) : Int) := by rw [ts]; omega
      obtain ⟨K, hK⟩ := ih (i + 1) (by omega) (by omega)
      refine ⟨K + 1, fun k hk => ?_⟩
      obtain ⟨k, rfl⟩ : ∃ j, k = j + 1 := ⟨k - 1, by omega⟩
      have e := hK k (by omega)
      simp only at e
      simp only [st]
      rw [if_neg c1, if_neg (fun h => ov ((n3 c1).1 h)), n4, n5 (by omega), em]
      exact e
theorem WParse_is (l : List UInt8) (hs : l.length ≤ 2000000) : Ev (fun k => wide_Parse.f k (bs l)) (parseW l) := by
  have hcl := cutm_len l
  simp only [wide_Parse.f]
  rw [CutPrefix_is]
  simp only [Option.bind_some]
  refine Ev.bind (WDigits_is (cutm l).1 (by omega)) ?_
  unfold parseW
  generalize hd : (cutm l).1 = d at *
  generalize hb : (cutm l).2 = b at *
  have no : ∀ x, Ev (fun k => wide_Parse.j0 k (bs d) x true) (0, 0, 12) := fun x => ⟨1, fun k hk => by
    obtain ⟨k, rfl⟩ : ∃ j, k = j + 1 := ⟨k - 1, by omega⟩
    simp only [wide_Parse.j0, if_true]⟩
  have yes : okNum d = true → Ev (fun k => wide_Parse.j0 k (bs d) b false) (wenc (sgv b (decVal d))) := by
    intro ok
    by_cases g : d.length > 39
    · have := okNum_great ok 39 (by omega) (by decide)
      have e39 : (10 : Nat) ^ 39 = 1000000000000000000000000000000000000000 := by decide +kernel
      rw [wenc_great b (decVal d) (by omega)]
      refine ⟨1, fun k hk => ?_⟩
      obtain ⟨k, rfl⟩ : ∃ j, k = j + 1 := ⟨k - 1, by omega⟩
      simp only [wide_Parse.j0, Bool.false_eq_true, if_false]
      rw [bs_size, if_pos (by omega)]
    · obtain ⟨K, hK⟩ := WParse_from d (okNum_digits ok) (by omega) b d.length 0 (by omega) (by simp [decVal])
      simp only [List.take_zero, show decVal [] = 0 from rfl] at hK
      refine ⟨K + 1, fun k hk => ?_⟩
      obtain ⟨k, rfl⟩ : ∃ j, k = j + 1 := ⟨k - 1, by omega⟩
      have e := hK k (by omega)
      simp only [wide_Parse.j0, Bool.false_eq_true, if_false]
      rw [bs_size, if_neg (by omega)]
      exact e
  cases ok : okNum d with
  | false =>
    simp only [Bool.false_eq_true, if_false, true_or, if_true]
    exact no b
  | true =>
    simp only [if_true, Bool.true_eq_false, false_or]
    have y := yes ok
    cases b with
    | false =>
      simp only [Bool.false_eq_true, if_false, false_and]
      exact y
    | true =>
      simp only [if_true, true_and, bs_list]
      by_cases z : d = [48]
      · rw [if_pos z, z]
        have : ([48] == ([48] : List UInt8)) = true := rfl
        simp only [this]
        rw [← z]; exact no true
      · rw [if_neg z]
        have : (d == ([48] : List UInt8)) = false := by simpa using z
        simp only [this]
        exact y
/-- The number of a list of limbs. -/
def nv : List Int → Int
  | [] => 0
  | x :: l => x + 65536 * nv l
/-- All are limbs. -/
def Lm (l : List Int) : Prop := ∀ x ∈ l, 0 ≤ x ∧ x < 65536
def limF : Nat → Int → List Int
  | 0, _ => []
  | k + 1, n => if n ≤ 0 then [] else n % 65536 :: limF k (n / 65536)
/-- The limbs of a number, no 0 at the top. -/
def lim (n : Int) : List Int := limF n.toNat n
/-- 65536 to a power. -/
def B (i : Nat) : Int := 65536 ^ i
theorem B_zero : B 0 = 1 := rfl
theorem B_succ (i : Nat) : B (i + 1) = 65536 * B i := by unfold B; rw [Int.pow_succ, Int.mul_comm]
theorem B_pos (i : Nat) : 0 < B i := Int.pow_pos (by decide)
theorem B_add (i j : Nat) : B (i + j) = B i * B j := Int.pow_add _ _ _
theorem B_two (i : Nat) : B i = 2 ^ (16 * i) := by
  unfold B; rw [Int.pow_mul]; rfl
theorem limF_more : ∀ (k j : Nat) (n : Int), n ≤ k → limF (k + j) n = limF k n := by
  intro k
  induction k with
  | zero => intro j n h; cases j with
    | zero => rfl
    | succ j => simp only [limF, Nat.zero_add]; rw [if_pos (by omega)]
  | succ k ih =>
    intro j n h
    rw [show k + 1 + j = (k + j) + 1 by omega]
    simp only [limF]
    by_cases c : n ≤ 0
    · rw [if_pos c, if_pos c]
    · rw [if_neg c, if_neg c, ih j _ (by omega)]
theorem limF_lim (k : Nat) (n : Int) (h : n ≤ k) : limF k n = lim n := by
  unfold lim
  obtain ⟨j, rfl⟩ : ∃ j, k = n.toNat + j := ⟨k - n.toNat, by omega⟩
  exact limF_more _ _ _ (by omega)
theorem lim_zero : lim 0 = [] := rfl
theorem lim_pos (n : Int) (h : 0 < n) : lim n = n % 65536 :: lim (n / 65536) := by
  obtain ⟨k, hk⟩ : ∃ k, n.toNat = k + 1 := ⟨n.toNat - 1, by omega⟩
  conv => lhs; unfold lim; rw [hk]
  simp only [limF]
  rw [if_neg (by omega), limF_lim _ _ (by omega)]
theorem lim_neg (n : Int) (h : n ≤ 0) : lim n = [] := by
  unfold lim
  rw [show n.toNat = 0 by omega]; rfl
theorem lim_rec {p : Int → Prop} (h0 : p 0) (h1 : ∀ n, 0 < n → p (n / 65536) → p n) : ∀ n, 0 ≤ n → p n := by
  intro n hn
  obtain ⟨m, rfl⟩ := Int.eq_ofNat_of_zero_le hn
  induction m using Nat.strongRecOn with
  | ind m ih =>
    by_cases c : m = 0
    · subst c; exact h0
    · refine h1 _ (by omega) ?_
      have := ih (m / 65536) (by omega) (by omega)
      rwa [show ((m / 65536 : Nat) : Int) = (m : Int) / 65536 by omega] at this
theorem lim_Lm (n : Int) (hn : 0 ≤ n) : Lm (lim n) := by
  refine lim_rec (p := fun n => Lm (lim n)) (by intro x hx; simp [lim_zero] at hx) (fun n h ih => ?_) n hn
  rw [lim_pos n h]
  intro x hx
  rcases List.mem_cons.1 hx with rfl | hx
  · omega
  · exact ih x hx
theorem nv_lim (n : Int) (hn : 0 ≤ n) : nv (lim n) = n := by
  refine lim_rec (p := fun n => nv (lim n) = n) rfl (fun n h ih => ?_) n hn
  rw [lim_pos n h]
  simp only [nv, ih]
  omega
theorem Lm_cons {x : Int} {l : List Int} (h : Lm (x :: l)) : (0 ≤ x ∧ x < 65536) ∧ Lm l := ⟨h x (by simp), fun y hy => h y (by simp [hy])⟩
theorem Lm_mk {x : Int} {l : List Int} (hx : 0 ≤ x ∧ x < 65536) (h : Lm l) : Lm (x :: l) := by
  intro y hy
  rcases List.mem_cons.1 hy with rfl | hy
  · exact hx
  · exact h y hy
theorem Lm_nil : Lm [] := by intro x hx; simp at hx
theorem Lm_app {a b : List Int} (ha : Lm a) (hb : Lm b) : Lm (a ++ b) := by
  intro x hx
  rcases List.mem_append.1 hx with h | h
  · exact ha x h
  · exact hb x h
theorem Lm_snoc {a : List Int} {x : Int} (ha : Lm a) (hx : 0 ≤ x ∧ x < 65536) : Lm (a ++ [x]) := Lm_app ha (Lm_mk hx Lm_nil)
theorem Lm_set {a : List Int} (ha : Lm a) (i : Nat) (x : Int) (hx : 0 ≤ x ∧ x < 65536) : Lm (a.set i x) := by
  intro y hy
  rcases List.mem_or_eq_of_mem_set hy with h | h
  · exact ha y h
  · subst h; exact hx
theorem Lm_zeros (n : Nat) : Lm (List.replicate n 0) := by
  intro x hx
  rw [List.mem_replicate] at hx
  omega
theorem Lm_left {a b : List Int} (h : Lm (a ++ b)) : Lm a := fun x hx => h x (List.mem_append_left _ hx)
theorem nv_nonneg {l : List Int} (h : Lm l) : 0 ≤ nv l := by
  induction l with
  | nil => simp [nv]
  | cons x l ih =>
    obtain ⟨h1, h2⟩ := Lm_cons h
    have := ih h2
    simp only [nv]; omega
theorem nv_lt {l : List Int} (h : Lm l) : nv l < B l.length := by
  induction l with
  | nil => simp [nv, B]
  | cons x l ih =>
    obtain ⟨h1, h2⟩ := Lm_cons h
    have := ih h2
    rw [List.length_cons, B_succ]
    simp only [nv]; omega
theorem nv_app (a b : List Int) : nv (a ++ b) = nv a + B a.length * nv b := by
  induction a with
  | nil => simp [nv, B]
  | cons x l ih =>
    rw [List.cons_append, List.length_cons, B_succ]
    simp only [nv, ih]
    rw [Int.mul_add, Int.mul_assoc]
    omega
theorem nv_snoc (a : List Int) (x : Int) : nv (a ++ [x]) = nv a + B a.length * x := by
  rw [nv_app]; simp [nv]
theorem nv_zeros (n : Nat) : nv (List.replicate n 0) = 0 := by
  induction n with
  | zero => rfl
  | succ n ih => rw [List.replicate_succ]; simp [nv, ih]
/-- No 0 at the top. -/
theorem lim_nv {l : List Int} (h : Lm l) (ht : ∀ x ∈ l.getLast?, x ≠ 0) : lim (nv l) = l := by
  induction l with
  | nil => rfl
  | cons x l ih =>
    obtain ⟨h1, h2⟩ := Lm_cons h
    have n0 := nv_nonneg h2
    cases l with
    | nil =>
      have : x ≠ 0 := ht x (by simp)
      simp only [nv]
      rw [lim_pos _ (by omega), show (x + 65536 * 0) / 65536 = 0 by omega, lim_zero]
      congr 1; omega
    | cons y l =>
      have e := ih h2 (by intro z hz; exact ht z (by rw [List.getLast?_cons_cons]; exact hz))
      have np : 0 < nv (y :: l) := by
        rcases Int.lt_or_eq_of_le n0 with h' | h'
        · exact h'
        · rw [← h', lim_zero] at e; simp at e
      rw [show nv (x :: y :: l) = x + 65536 * nv (y :: l) from rfl]
      generalize nv (y :: l) = m at *
      rw [lim_pos _ (by omega), show (x + 65536 * m) / 65536 = m by omega, e]
      congr 1; omega
theorem lim_len (n : Int) (hn : 0 ≤ n) : ∀ k, n < B k → (lim n).length ≤ k := by
  refine lim_rec (p := fun n => ∀ k, n < B k → (lim n).length ≤ k) (fun k _ => by simp [lim_zero]) (fun n h ih k hk => ?_) n hn
  cases k with
  | zero => rw [B_zero] at hk; omega
  | succ k =>
    rw [lim_pos n h, List.length_cons]
    have := ih k (by rw [B_succ] at hk; omega)
    omega
theorem B_le_lim (n : Int) (hn : 0 < n) : ∃ k, (lim n).length = k + 1 ∧ B k ≤ n ∧ n < B (k + 1) := by
  have h := lim_rec (p := fun n => 0 < n → ∃ k, (lim n).length = k + 1 ∧ B k ≤ n ∧ n < B (k + 1)) (fun h => by omega) (fun n h ih _ => ?_) n (by omega)
  · exact h hn
  · rw [lim_pos n h, List.length_cons]
    by_cases c : 0 < n / 65536
    · obtain ⟨k, e, h1, h2⟩ := ih c
      refine ⟨k + 1, by omega, ?_, ?_⟩
      · rw [B_succ]; omega
      · rw [B_succ]; omega
    · refine ⟨0, ?_, ?_, ?_⟩
      · rw [lim_neg _ (by omega)]; rfl
      · rw [B_zero]; omega
      · rw [B_succ, B_zero]; omega
/-- A limb of a list as a digit of its number. -/
theorem rd_cons (x : Int) (l : List Int) (i : Nat) : rd (x :: l) ((i + 1 : Nat) : Int) = rd l (i : Int) := by
  unfold rd; rw [Int.toNat_natCast, Int.toNat_natCast]; rfl
theorem rd_nv {l : List Int} (h : Lm l) : ∀ i : Nat, rd l (i : Int) = nv l / B i % 65536 := by
  induction l with
  | nil => intro i; simp [rd, nv]
  | cons x l ih =>
    obtain ⟨h1, h2⟩ := Lm_cons h
    intro i
    cases i with
    | zero => rw [B_zero]; simp only [rd, nv]; simp; omega
    | succ i =>
      rw [rd_cons, ih h2, B_succ, ← Int.ediv_ediv_of_nonneg (by decide)]
      simp only [nv]
      rw [show (x + 65536 * nv l) / 65536 = nv l by omega]
theorem rd_range {l : List Int} (h : Lm l) (i : Int) : 0 ≤ rd l i ∧ rd l i < 65536 := by
  unfold rd
  rw [List.getD_eq_getElem?_getD]
  rcases Nat.lt_or_ge i.toNat l.length with c | c
  · rw [List.getElem?_eq_getElem c]; exact h _ (List.getElem_mem c)
  · rw [List.getElem?_eq_none c]; simp
theorem rd_out {l : List Int} (i : Int) (h : (l.length : Int) ≤ i) : rd l i = 0 := by
  unfold rd; rw [List.getD_eq_getElem?_getD, List.getElem?_eq_none (by omega)]; rfl
theorem nv_take {l : List Int} (h : Lm l) : ∀ i : Nat, nv (l.take i) = nv l % B i := by
  induction l with
  | nil => intro i; simp [nv]
  | cons x l ih =>
    obtain ⟨h1, h2⟩ := Lm_cons h
    intro i
    cases i with
    | zero => simp [nv, B]
    | succ i =>
      rw [List.take_succ_cons, B_succ]
      simp only [nv]
      rw [ih h2, Int.emod_def, Int.emod_def, ← Int.ediv_ediv_of_nonneg (by decide), show (x + 65536 * nv l) / 65536 = nv l by omega, Int.mul_assoc]
      omega
theorem nv_mod_full {l : List Int} (h : Lm l) (i : Nat) (hi : l.length ≤ i) : nv l % B i = nv l := by
  rw [← nv_take h, List.take_of_length_le hi]
theorem nv_set {l : List Int} (i : Nat) (x : Int) (hi : i < l.length) : nv (l.set i x) = nv l + B i * (x - rd l (i : Int)) := by
  induction l generalizing i with
  | nil => simp at hi
  | cons y l ih =>
    cases i with
    | zero => simp only [List.set_cons_zero, nv, rd, B]; simp; omega
    | succ i =>
      rw [List.set_cons_succ, rd_cons, B_succ]
      simp only [nv]
      rw [ih i (by simpa using hi), Int.mul_add, Int.mul_assoc]
      omega
/-- One digit more. -/
theorem mod_succ (n : Int) (i : Nat) (hn : 0 ≤ n) : n % B (i + 1) = n % B i + B i * (n / B i % 65536) := by
  rw [B_succ, Int.mul_comm]
  have := B_pos i
  rw [Int.emod_def, ← Int.ediv_ediv_of_nonneg (by omega), Int.emod_def n (B i), Int.emod_def (n / B i), Int.mul_sub, Int.mul_assoc]
  omega
theorem lim_eq_nil {n : Int} (hn : 0 ≤ n) : lim n = [] ↔ n = 0 := by
  constructor
  · intro h
    have := nv_lim n hn
    rw [h] at this
    exact this.symm
  · intro h; subst h; rfl
theorem lim_length_pos {n : Int} (hn : 0 ≤ n) : 0 < (lim n).length ↔ 0 < n := by
  rw [List.length_pos_iff]
  constructor
  · intro h; rcases Int.lt_or_eq_of_le hn with h' | h'
    · exact h'
    · exact absurd (h' ▸ lim_zero) h
  · intro h h'
    rw [lim_eq_nil hn] at h'
    omega
/-- No list is longer than this. -/
def Sh (l : List Int) : Prop := l.length ≤ 1000000000
theorem wrap_i {x : Int} (h : -9223372036854775808 ≤ x ∧ x ≤ 9223372036854775807) : wrap64 x = x := by unfold wrap64; omega
theorem wrap_u {x : Int} (h : 0 ≤ x ∧ x < 18446744073709551616) : IntKind.u64.wrap x = x := wraps_u64 x h.1 (by omega)
theorem rd_last (a : List Int) (x : Int) : rd (a ++ [x]) (a.length : Int) = x := by
  unfold rd; rw [Int.toNat_natCast]; simp
theorem trim_is (n : Nat) : ∀ l : List Int, l.length = n → Lm l → Sh l → Ev (fun k => tumblerref01_trim.f k l) (lim (nv l)) := by
  induction n with
  | zero =>
    intro l hn hl hs
    obtain rfl := List.length_eq_zero_iff.1 hn
    refine ⟨1, fun k hk => ?_⟩
    obtain ⟨k, rfl⟩ : ∃ j, k = j + 1 := ⟨k - 1, by omega⟩
    simp [tumblerref01_trim.f, tumblerref01_trim.l0, nv, lim_zero]
  | succ n ih =>
    intro l hn hl hs
    obtain ⟨a, x, rfl⟩ : ∃ a x, l = a ++ [x] := ⟨l.dropLast, l.getLast (by intro e; subst e; simp at hn), (List.dropLast_concat_getLast _).symm⟩
    unfold Sh at hs
    rw [List.length_append, List.length_singleton] at hn hs
    obtain ⟨K, hK⟩ := ih a (by omega) (Lm_left hl) (by unfold Sh; omega)
    have hx := hl x (by simp)
    refine ⟨K + 1, fun k hk => ?_⟩
    obtain ⟨k, rfl⟩ : ∃ j, k = j + 1 := ⟨k - 1, by omega⟩
    have e := hK k (by omega)
    have e1 : wrap64 (((a ++ [x]).length : Int) - 1) = (a.length : Int) := by
      rw [List.length_append, List.length_singleton]
      rw [wrap_i (by omega)]; omega
    simp only [tumblerref01_trim.f] at e ⊢
    simp only [tumblerref01_trim.l0]
    rw [e1, if_pos (by rw [List.length_append, List.length_singleton]; omega), if_pos (by omega), if_pos (by rw [List.length_append, List.length_singleton]; omega), rd_last]
    by_cases c : x = 0
    · rw [if_pos c, if_pos (by rw [List.length_append, List.length_singleton]; omega), Int.toNat_natCast, List.take_left, e, nv_snoc, c, Int.mul_zero, Int.add_zero]
    · rw [if_neg c, lim_nv hl (by intro y hy; simp at hy; omega)]
theorem Trim_is {l : List Int} (hl : Lm l) (hs : Sh l) : Ev (fun k => tumblerref01_trim.f k l) (lim (nv l)) := trim_is _ l rfl hl hs
/-- A number without bound, as the reference tells it. -/
def num (x : Int) : Bool × List Int := (decide (x < 0), lim (mag x))
theorem Make2_is (b : Bool) {l : List Int} (hl : Lm l) (hs : Sh l) : Ev (fun k => tumblerref01_make2.f k b l) (num (if b = true then -nv l else nv l)) := by
  obtain ⟨K, hK⟩ := Trim_is hl hs
  have h0 := nv_nonneg hl
  have hp := lim_length_pos h0
  refine ⟨K, fun k hk => ?_⟩
  have e := hK k hk
  simp only at e
  simp only [tumblerref01_make2.f, e, Option.bind_some]
  unfold num mag
  generalize nv l = n at *
  cases b
  · simp only [Bool.false_eq_true, if_false]
    rw [if_neg (by omega), decide_eq_false (by omega)]
  · simp only [if_true]
    refine pair2 (decide_eq_decide.2 (by omega)) ?_
    by_cases c : n = 0
    · subst c; rfl
    · rw [if_pos (by omega), Int.neg_neg]
theorem limb_is {l : List Int} (hl : Lm l) (i : Nat) : tumblerref01_limb.f l (i : Int) = some (nv l / B i % 65536) := by
  unfold tumblerref01_limb.f
  rw [← rd_nv hl]
  by_cases c : (i : Int) < (l.length : Int)
  · rw [if_pos c, if_pos (by omega)]
  · rw [if_neg c, rd_out _ (by omega)]
theorem and_u32 (x : Int) (h0 : 0 ≤ x) (h1 : x < 4294967296) : Go.bits .and .u32 x 65535 = x % 65536 :=
  bits_mask .u32 32 (by decide) (fun n h0 h1 => by simp [IntKind.wrap, IntKind.bits, IntKind.signed]; omega) 16 (by decide) x h0 (by simpa using h1)
theorem and_u64 (x : Int) (h0 : 0 ≤ x) (h1 : x < 18446744073709551616) : Go.bits .and .u64 x 65535 = x % 65536 :=
  bits_mask .u64 64 (by decide) wraps_u64 16 (by decide) x h0 (by simpa using h1)
theorem digit_range (n : Int) (i : Nat) : 0 ≤ n / B i % 65536 ∧ n / B i % 65536 < 65536 := ⟨Int.emod_nonneg _ (by decide), Int.emod_lt_of_pos _ (by decide)⟩
theorem B_le {i j : Nat} (h : i ≤ j) : B i ≤ B j := by
  obtain ⟨d, rfl⟩ : ∃ d, j = i + d := ⟨j - i, by omega⟩
  rw [B_add]
  have := Int.mul_le_mul_of_nonneg_left (show 1 ≤ B d from B_pos _) (Int.le_of_lt (B_pos i))
  omega
/-- A number that isn't too great. -/
def Bd (x : Int) : Prop := mag x < B 1000
theorem B16 : B 16 = 115792089237316195423570985008687907853269984665640564039457584007913129639936 := by decide +kernel
theorem B8 : B 8 = 340282366920938463463374607431768211456 := by decide +kernel
theorem B4 : B 4 = 18446744073709551616 := by decide +kernel
theorem Bd_of {x : Int} (h : mag x < 115792089237316195423570985008687907853269984665640564039457584007913129639936) : Bd x := by
  unfold Bd
  rw [← B16] at h
  exact Int.lt_of_lt_of_le h (B_le (by decide))
theorem Bd_len {x : Int} (h : Bd x) : (lim (mag x)).length ≤ 1000 := lim_len _ (mag_nonneg x) _ h
theorem mag_lim (x : Int) : nv (lim (mag x)) = mag x := nv_lim _ (mag_nonneg x)
theorem mag_Lm (x : Int) : Lm (lim (mag x)) := lim_Lm _ (mag_nonneg x)
theorem MakeN_is (b : Bool) (n : Int) (hn : 0 ≤ n) (hs : (lim n).length ≤ 1000000000) : Ev (fun k => tumblerref01_make2.f k b (lim n)) (num (if b = true then -n else n)) := by
  have := Make2_is b (lim_Lm n hn) hs
  rwa [nv_lim n hn] at this
theorem Ev_num {g : Nat → Option (Bool × List Int)} {x y : Int} (h : Ev g (num x)) (e : x = y) : Ev (fun k => (g k).bind fun b => some (b.1, b.2)) (num y) := by
  subst e
  obtain ⟨K, hK⟩ := h
  exact ⟨K, fun k hk => by show (g k).bind _ = _; rw [hK k hk]; rfl⟩
theorem num_neg (x : Int) : (num x).1 = decide (x < 0) := rfl
theorem num_lim (x : Int) : (num x).2 = lim (mag x) := rfl
theorem place_u (j : Nat) (h : j < 4) : IntKind.u64.wrap (16 * IntKind.u64.wrap (j : Int)) = ((16 * j : Nat) : Int) := by
  rw [wrap_u (x := (j : Int)) (by omega), wrap_u (by omega)]; omega
theorem limb_at (x : Int) (h0 : 0 ≤ x) (h1 : x < 18446744073709551616) (j : Nat) (h : j < 4) :
    Go.bits .and .u32 ((shr .u64 x ((16 * j : Nat) : Int)) % 4294967296) 65535 = x / B j % 65536 := by
  rw [shr_at _ _ (by omega) (by omega), Int.toNat_natCast, ← B_two, and_u32 _ (by omega) (by omega)]
  omega
theorem from_hi (lo hi : Int) (n : Bool) (h0 : U lo) (h1 : U hi) (d : Nat) : ∀ (j : Nat) (out : List Int), j + d = 4 → out.length = 4 + j → Lm out → nv out = lo + B 4 * (hi % B j) →
    Ev (fun k => tumblerref01_From.l1 k out hi n (j : Int)) (num (if n = true then -(lo + B 4 * hi) else lo + B 4 * hi)) := by
  unfold U at h0 h1
  induction d with
  | zero =>
    intro j out hd ho hl hv
    obtain rfl : j = 4 := by omega
    obtain ⟨K, hK⟩ := Make2_is n hl (show Sh out by unfold Sh; omega)
    rw [show hi % B 4 = hi by rw [B4]; omega] at hv
    rw [hv] at hK
    refine ⟨K + 1, fun k hk => ?_⟩
    obtain ⟨k, rfl⟩ : ∃ j, k = j + 1 := ⟨k - 1, by omega⟩
    have e := hK k (by omega)
    simp only at e
    simp only [tumblerref01_From.l1]
    rw [if_neg (by omega), e]; rfl
  | succ d ih =>
    intro j out hd ho hl hv
    have dg := digit_range hi j
    obtain ⟨K, hK⟩ := ih (j + 1) (out ++ [hi / B j % 65536]) (by omega) (by simp [ho]; omega) (Lm_snoc hl dg) (by
      rw [nv_snoc, hv, ho, mod_succ _ _ (by omega), B_add, Int.mul_add, Int.mul_assoc]; omega)
    refine ⟨K + 1, fun k hk => ?_⟩
    obtain ⟨k, rfl⟩ : ∃ j, k = j + 1 := ⟨k - 1, by omega⟩
    have e := hK k (by omega)
    simp only [tumblerref01_From.l1]
    rw [if_pos (by omega), place_u j (by omega), if_pos (by omega), if_pos (by omega), limb_at hi h1.1 h1.2 j (by omega), wrap_i (by omega)]
    exact e
theorem from_lo (lo hi : Int) (n : Bool) (h0 : U lo) (h1 : U hi) (d : Nat) : ∀ (j : Nat) (out : List Int), j + d = 4 → out.length = j → Lm out → nv out = lo % B j →
    Ev (fun k => tumblerref01_From.l0 k out hi lo n (j : Int)) (num (if n = true then -(lo + B 4 * hi) else lo + B 4 * hi)) := by
  have h0' := h0
  unfold U at h0'
  induction d with
  | zero =>
    intro j out hd ho hl hv
    obtain rfl : j = 4 := by omega
    rw [show lo % B 4 = lo by rw [B4]; omega] at hv
    obtain ⟨K, hK⟩ := from_hi lo hi n h0 h1 4 0 out (by omega) (by omega) hl (by rw [B_zero, Int.emod_one, Int.mul_zero, Int.add_zero, hv])
    refine ⟨K + 1, fun k hk => ?_⟩
    obtain ⟨k, rfl⟩ : ∃ j, k = j + 1 := ⟨k - 1, by omega⟩
    have e := hK k (by omega)
    simp only [tumblerref01_From.l0]
    rw [if_neg (by omega)]; exact e
  | succ d ih =>
    intro j out hd ho hl hv
    have dg := digit_range lo j
    obtain ⟨K, hK⟩ := ih (j + 1) (out ++ [lo / B j % 65536]) (by omega) (by simp [ho]) (Lm_snoc hl dg) (by
      rw [nv_snoc, hv, ho, mod_succ _ _ (by omega)])
    refine ⟨K + 1, fun k hk => ?_⟩
    obtain ⟨k, rfl⟩ : ∃ j, k = j + 1 := ⟨k - 1, by omega⟩
    have e := hK k (by omega)
    simp only [tumblerref01_From.l0]
    rw [if_pos (by omega), place_u j (by omega), if_pos (by omega), if_pos (by omega), limb_at lo h0'.1 h0'.2 j (by omega), wrap_i (by omega)]
    exact e
theorem from_j (lo hi : Int) (n : Bool) (h0 : U lo) (h1 : U hi) : Ev (fun k => tumblerref01_From.j0 k [] hi lo n) (num (if n = true then -(lo + B 4 * hi) else lo + B 4 * hi)) := by
  obtain ⟨K, hK⟩ := from_lo lo hi n h0 h1 4 0 [] (by omega) rfl Lm_nil (by rw [B_zero, Int.emod_one]; rfl)
  refine ⟨K + 1, fun k hk => ?_⟩
  obtain ⟨k, rfl⟩ : ∃ j, k = j + 1 := ⟨k - 1, by omega⟩
  simp only [tumblerref01_From.j0]
  exact hK k (by omega)
theorem From_is (h l : Int) (hh : Hi h) (hl : U l) : Ev (fun k => tumblerref01_From.f k h l) (num (h * 18446744073709551616 + l)) := by
  have ux := U_mod h
  simp only [tumblerref01_From.f, wrap_u64]
  rw [xor_all _ hl.1 hl.2, xor_all _ ux.1 ux.2]
  unfold Hi U at *
  by_cases c : h < 0
  · simp only [c, if_true, decide_true]
    by_cases d : (18446744073709551615 - l + 1) % 18446744073709551616 = 0
    · simp only [d, if_true]
      have e := from_j 0 ((18446744073709551615 - h % 18446744073709551616 + 1) % 18446744073709551616) true (by unfold U; omega) (U_mod _)
      simp only [if_true] at e
      rwa [B4, show -(0 + 18446744073709551616 * ((18446744073709551615 - h % 18446744073709551616 + 1) % 18446744073709551616)) = h * 18446744073709551616 + l by omega] at e
    · simp only [d, if_false]
      have e := from_j ((18446744073709551615 - l + 1) % 18446744073709551616) (18446744073709551615 - h % 18446744073709551616) true (U_mod _) (by unfold U; omega)
      simp only [if_true] at e
      rwa [B4, show -((18446744073709551615 - l + 1) % 18446744073709551616 + 18446744073709551616 * (18446744073709551615 - h % 18446744073709551616)) = h * 18446744073709551616 + l by omega] at e
  · simp only [c, if_false, decide_false]
    have e := from_j l (h % 18446744073709551616) false (by unfold U; omega) (U_mod _)
    simp only [Bool.false_eq_true, if_false] at e
    rwa [B4, show l + 18446744073709551616 * (h % 18446744073709551616) = h * 18446744073709551616 + l by omega] at e
theorem bits_or_comm (x y : Int) : Go.bits .or .u64 x y = Go.bits .or .u64 y x := by
  show IntKind.u64.wrap (((BitVec.ofInt 64 x) ||| (BitVec.ofInt 64 y)).toNat : Int) = IntKind.u64.wrap (((BitVec.ofInt 64 y) ||| (BitVec.ofInt 64 x)).toNat : Int)
  rw [BitVec.or_comm]
theorem shl_u (x : Int) (j : Nat) (hj : j < 64) (h0 : 0 ≤ x) (h1 : x * 2 ^ j < 18446744073709551616) : shl .u64 x (j : Int) = x * 2 ^ j := by
  have e : min (j : Int).toNat (IntKind.u64.bits) = j := by show min (j : Int).toNat 64 = _; omega
  unfold shl; rw [e]
  exact wraps_u64 _ (Int.mul_nonneg h0 (Int.le_of_lt (two_pos j))) (by omega)
theorem or_up (v x : Int) (j : Nat) (hj : j < 4) (h0 : 0 ≤ v) (h1 : v < B j) (hx : 0 ≤ x ∧ x < 65536) : Go.bits .or .u64 v (shl .u64 (IntKind.u64.wrap x) ((16 * j : Nat) : Int)) = v + B j * x := by
  have hB := B_pos j
  have hB3 : B j ≤ B 3 := B_le (by omega)
  have h3 : B 3 = 281474976710656 := by decide +kernel
  have hm : x * B j ≤ 65535 * B j := Int.mul_le_mul_of_nonneg_right (by omega) (Int.le_of_lt hB)
  have hn : 0 ≤ x * B j := Int.mul_nonneg hx.1 (Int.le_of_lt hB)
  rw [wrap_u (x := x) (by omega), shl_u x (16 * j) (by omega) hx.1 (by rw [← B_two]; omega), ← B_two, bits_or_comm, Int.mul_comm (B j) x]
  rw [bits_join .u64 64 (by decide) wraps_u64 (16 * j) (x * B j) v hn (by rw [← B_two, Int.mul_emod_left]) (by omega) h0 (by rw [← B_two]; exact h1) (by omega)]
  omega
theorem word_from (n : Int) (hn : 0 ≤ n) (hs : (lim n).length ≤ 1000) (at_ : Nat) (ha : at_ ≤ 4) (d : Nat) : ∀ j : Nat, j + d = 4 →
    Ev (fun k => tumblerref01_word.l0 k (lim n) (at_ : Int) (n / B at_ % B j) (j : Int)) (n / B at_ % B 4) := by
  induction d with
  | zero =>
    intro j hd
    obtain rfl : j = 4 := by omega
    refine ⟨1, fun k hk => ?_⟩
    obtain ⟨k, rfl⟩ : ∃ j, k = j + 1 := ⟨k - 1, by omega⟩
    simp only [tumblerref01_word.l0]
    rw [if_neg (by omega)]
  | succ d ih =>
    intro j hd
    obtain ⟨K, hK⟩ := ih (j + 1) (by omega)
    have hq : 0 ≤ n / B at_ := Int.ediv_nonneg hn (Int.le_of_lt (B_pos _))
    have r := rd_nv (lim_Lm n hn) (at_ + j)
    rw [nv_lim n hn, B_add, ← Int.ediv_ediv_of_nonneg (Int.le_of_lt (B_pos at_))] at r
    have ew : wrap64 ((at_ : Int) + (j : Int)) = ((at_ + j : Nat) : Int) := by rw [wrap_i (by omega)]; omega
    have ms := mod_succ (n / B at_) j hq
    have dg := digit_range (n / B at_) j
    refine ⟨K + 1, fun k hk => ?_⟩
    obtain ⟨k, rfl⟩ : ∃ j, k = j + 1 := ⟨k - 1, by omega⟩
    have e := hK k (by omega)
    simp only at e
    simp only [tumblerref01_word.l0]
    rw [if_pos (by omega), ew, place_u j (by omega), wrap_i (x := (j : Int) + 1) (by omega)]
    by_cases c : ((at_ + j : Nat) : Int) < ((lim n).length : Int)
    · rw [if_pos c, if_pos (by omega), if_pos (by omega), r, or_up _ _ j (by omega) (Int.emod_nonneg _ (by have := B_pos j; omega)) (Int.emod_lt_of_pos _ (B_pos j)) dg, ← ms]
      exact e
    · rw [if_neg c]
      rw [rd_out _ (by omega)] at r
      rw [← r, Int.mul_zero, Int.add_zero] at ms
      rw [← ms]
      exact e
theorem Word_is (n : Int) (hn : 0 ≤ n) (hs : (lim n).length ≤ 1000) (at_ : Nat) (ha : at_ ≤ 4) : Ev (fun k => tumblerref01_word.f k (lim n) (at_ : Int)) (n / B at_ % B 4) := by
  have := word_from n hn hs at_ ha 4 0 (by omega)
  rw [B_zero, Int.emod_one] at this
  exact this
/-- The wide number of a number, if there is one. -/
def wto (x : Int) : Int × Int × Bool := if -170141183460469231731687303715884105728 ≤ x ∧ x < 170141183460469231731687303715884105728 then (x / 18446744073709551616, x % 18446744073709551616, true) else (0, 0, false)
theorem To_is (x : Int) (hx : Bd x) : Ev (fun k => tumblerref01_To.f k (num x).1 (num x).2) (wto x) := by
  have lx := Bd_len hx
  have nx := mag_nonneg x
  simp only [num_neg, num_lim, tumblerref01_To.f]
  by_cases c : ((lim (mag x)).length : Int) > 8
  · simp only [c, if_true]
    have hp : 0 < mag x := (lim_length_pos nx).1 (by omega)
    obtain ⟨k, e, h2, h3⟩ := B_le_lim (mag x) hp
    have := B_le (show 8 ≤ k by omega)
    rw [B8] at this
    refine ⟨0, fun k _ => ?_⟩
    have hm : 340282366920938463463374607431768211456 ≤ mag x := by omega
    clear h2 h3 hp c lx nx e
    unfold wto; rw [if_neg (by unfold mag at hm; split at hm <;> omega)]
  · simp only [c, if_false]
    have hb : mag x < B 8 := by
      have h1 := nv_lt (mag_Lm x)
      rw [mag_lim] at h1
      exact Int.lt_of_lt_of_le h1 (B_le (by omega))
    refine Ev.bind (Word_is (mag x) nx lx 0 (by omega)) (Ev.bind (Word_is (mag x) nx lx 4 (by omega)) ?_)
    rw [B_zero, Int.ediv_one, B4]
    rw [B8] at hb
    by_cases d : x < 0
    · have em : mag x = -x := mag_neg d
      rw [em] at hb nx lx ⊢
      have uy : U (-x / 18446744073709551616 % 18446744073709551616) := U_mod _
      have ux := U_mod (-x)
      have hy : -x / 18446744073709551616 % 18446744073709551616 = -x / 18446744073709551616 := by omega
      rw [hy] at uy ⊢
      have J : ∀ b : Bool, b = decide (-x > 170141183460469231731687303715884105728) → Ev (fun k => tumblerref01_To.j0 k (-x % 18446744073709551616) (-x / 18446744073709551616) b) (wto x) := by
        intro b hb'
        refine ⟨1, fun k hk => ?_⟩
        obtain ⟨k, rfl⟩ : ∃ j, k = j + 1 := ⟨k - 1, by omega⟩
        simp only [tumblerref01_To.j0]
        unfold wto
        by_cases f : -x > 170141183460469231731687303715884105728
        · rw [decide_eq_true f] at hb'
          rw [if_pos hb', if_neg (by omega)]
        · rw [decide_eq_false f] at hb'
          subst hb'
          rw [if_neg (by decide), xor_all _ ux.1 ux.2, xor_all _ uy.1 uy.2, wrap_u64, wrap_u64, if_pos (show _ ∧ _ by omega)]
          unfold wrap64
          split
          · exact trip (by omega) (by omega) rfl
          · exact trip (by omega) (by omega) rfl
      simp only [d, decide_true, if_true]
      by_cases g : -x / 18446744073709551616 > 9223372036854775808
      · simp only [g, if_true]; exact J _ (decide_eq_true (by omega)).symm
      · simp only [g, if_false]
        by_cases g' : -x / 18446744073709551616 = 9223372036854775808
        · simp only [g', if_true]; rw [← g']; exact J _ (decide_eq_decide.2 (by omega))
        · simp only [g', if_false]; exact J _ (decide_eq_false (by omega)).symm
    · have em : mag x = x := mag_pos (by omega)
      rw [em] at hb nx lx ⊢
      simp only [d, decide_false, Bool.false_eq_true, if_false]
      refine ⟨0, fun k _ => ?_⟩
      unfold wto tumblerref01_fits.f
      by_cases g : x < 170141183460469231731687303715884105728
      · rw [decide_eq_true (by omega), if_pos (show _ ∧ _ by omega), if_pos rfl]
        simp only [Option.bind_some]
        unfold wrap64
        exact trip (by omega) (by omega) rfl
      · rw [decide_eq_false (by omega), if_neg (by decide), if_neg (by clear nx lx hb em; omega)]
        rfl
theorem Over_is (x : Int) (hx : Bd x) : Ev (fun k => tumblerref01_over.f k (num x).1 (num x).2) (wenc x) := by
  simp only [tumblerref01_over.f]
  refine Ev.bind (To_is x hx) ⟨0, fun k _ => ?_⟩
  unfold wto wenc
  split <;> rfl
theorem Ev_three {g : Nat → Option (Int × Int × Int)} {r : Int × Int × Int} (h : Ev g r) : Ev (fun k => (g k).bind fun b => some (b.1, b.2.1, b.2.2)) r := by
  obtain ⟨K, hK⟩ := h
  exact ⟨K, fun k hk => by show (g k).bind _ = _; rw [hK k hk]; rfl⟩
theorem ROf_is (n : Int) (hn : Hi n) : tumblerref01_Of.f n = some (n / 18446744073709551616, n % 18446744073709551616) := by
  unfold Hi at hn
  unfold tumblerref01_Of.f
  rw [wrap_u64]
  by_cases c : n < 0
  · rw [if_pos c]; exact pair2 (by omega) rfl
  · rw [if_neg c]; exact pair2 (by omega) rfl
theorem mul_sum (x y r c : Int) (hx : 0 ≤ x ∧ x < 65536) (hy : 0 ≤ y ∧ y < 65536) (hr : 0 ≤ r ∧ r < 65536) (hc : 0 ≤ c ∧ c < 65536) :
    IntKind.u64.wrap (IntKind.u64.wrap (IntKind.u64.wrap r + IntKind.u64.wrap (IntKind.u64.wrap x * IntKind.u64.wrap y)) + c) = r + x * y + c ∧ 0 ≤ r + x * y + c ∧ r + x * y + c < 4294967296 := by
  have h1 : x * y ≤ 65535 * 65535 := Int.mul_le_mul (by omega) (by omega) hy.1 (by decide)
  have h0 : 0 ≤ x * y := Int.mul_nonneg hx.1 hy.1
  rw [wrap_u (x := r) (by omega), wrap_u (x := x) (by omega), wrap_u (x := y) (by omega)]
  generalize x * y = p at *
  rw [wrap_u (x := p) (by omega), wrap_u (x := r + p) (by omega), wrap_u (by omega)]
  omega
/-- The inner loop of mulL, from round j on. -/
theorem mulL_in (a b : List Int) (ha : Lm a) (hb : Lm b) (hsa : a.length ≤ 400000000) (hsb : b.length ≤ 400000000) (i : Nat) (hi : i < a.length) (V : Int) (hV : V = nv a % B i * nv b) (R : List Int)
    (next : ∀ out, out.length = a.length + b.length → Lm out → nv out = nv a % B (i + 1) * nv b → Ev (fun k => tumblerref01_mulL.l0 k a b out ((i + 1 : Nat) : Int)) R) (d : Nat) :
    ∀ (j : Nat) (out : List Int) (c : Int), b.length + 1 = j + d → out.length = a.length + b.length → Lm out → 0 ≤ c ∧ c < 65536 → nv out + B (i + j) * c = V + B i * (nv a / B i % 65536) * (nv b % B j) → (d = 0 → c = 0) →
    Ev (fun k => tumblerref01_mulL.l1 k a b out (i : Int) c (j : Int)) R := by
  have hna := nv_nonneg ha
  have hnb := nv_nonneg hb
  have dx := digit_range (nv a) i
  have ex := mod_succ (nv a) i hna
  have fin : V + B i * (nv a / B i % 65536) * nv b = nv a % B (i + 1) * nv b := by rw [hV, ex, Int.add_mul]
  induction d with
  | zero =>
    intro j out c hd ho hl hc hv hz
    have := hz rfl
    subst this
    rw [nv_mod_full hb j (by omega), fin, Int.mul_zero, Int.add_zero] at hv
    obtain ⟨K, hK⟩ := next out ho hl hv
    refine ⟨K + 1, fun k hk => ?_⟩
    obtain ⟨k, rfl⟩ : ∃ j, k = j + 1 := ⟨k - 1, by omega⟩
    have e := hK k (by omega)
    simp only [tumblerref01_mulL.l1]
    rw [if_neg (by omega), if_neg (by omega), wrap_i (by omega)]
    exact e
  | succ d ih =>
    intro j out c hd ho hl hc hv hz
    by_cases go : j < b.length ∨ c > 0
    · have dy := digit_range (nv b) j
      have ey := mod_succ (nv b) j hnb
      have dr := rd_range hl ((i + j : Nat) : Int)
      have xa := rd_nv ha i
      have ns := nv_set (l := out) (i + j) ((rd out ((i + j : Nat) : Int) + nv a / B i % 65536 * (nv b / B j % 65536) + c) % 65536) (by omega)
      obtain ⟨m1, m2, m3⟩ := mul_sum _ _ _ c dx dy dr hc
      generalize hx : nv a / B i % 65536 = x at *
      generalize hy : nv b / B j % 65536 = y at *
      generalize hr : rd out ((i + j : Nat) : Int) = r at *
      have hs : Lm (out.set (i + j) ((r + x * y + c) % 65536)) := Lm_set hl _ _ (by omega)
      have hv' : nv (out.set (i + j) ((r + x * y + c) % 65536)) + B (i + (j + 1)) * ((r + x * y + c) / 65536) = V + B i * x * (nv b % B (j + 1)) := by
        rw [ns, ey, Int.mul_add (B i * x), ← Int.add_assoc V, ← hv, show i + (j + 1) = (i + j) + 1 by omega, B_succ, B_add]
        generalize B i = p
        generalize B j = q
        have e : x * y = (r + x * y + c) % 65536 + 65536 * ((r + x * y + c) / 65536) - r - c := by omega
        have e2 : p * x * (q * y) = p * q * (x * y) := by grind
        rw [e2]
        conv => rhs; rw [e]
        grind
      have hz' : d = 0 → (r + x * y + c) / 65536 = 0 := by
        intro h0
        rw [nv_mod_full hb (j + 1) (by omega), fin] at hv'
        have l1 := nv_nonneg hs
        have l2 : nv a % B (i + 1) * nv b < B (i + (j + 1)) := by
          have q1 : nv a % B (i + 1) < B (i + 1) := Int.emod_lt_of_pos _ (B_pos _)
          have q0 : 0 ≤ nv a % B (i + 1) := Int.emod_nonneg _ (by have := B_pos (i + 1); omega)
          have q2 := nv_lt hb
          have q3 : nv a % B (i + 1) * nv b ≤ nv a % B (i + 1) * B b.length := Int.mul_le_mul_of_nonneg_left (by omega) q0
          have q4 : nv a % B (i + 1) * B b.length < B (i + 1) * B b.length := Int.mul_lt_mul_of_pos_right q1 (B_pos _)
          rw [← B_add] at q4
          have q5 := B_le (show i + 1 + b.length ≤ i + (j + 1) by omega)
          omega
        have l3 : B (i + (j + 1)) * ((r + x * y + c) / 65536) < B (i + (j + 1)) * 1 := by omega
        have l4 := Int.lt_of_mul_lt_mul_left l3 (Int.le_of_lt (B_pos _))
        omega
      obtain ⟨K, hK⟩ := ih (j + 1) _ ((r + x * y + c) / 65536) (by omega) (by rw [List.length_set]; exact ho) hs (by omega) hv' hz'
      have hin : ((i + j : Nat) : Int) < (out.length : Int) := by omega
      have hi0 : (0 : Int) ≤ ((i + j : Nat) : Int) := by omega
      have hi1 : (i : Int) < (a.length : Int) := by omega
      have hj1 : -9223372036854775808 ≤ (j : Int) + 1 ∧ (j : Int) + 1 ≤ 9223372036854775807 := by omega
      have hi2 : (0 : Int) ≤ (i : Int) := by omega
      have hs64 : r + x * y + c < 18446744073709551616 := by omega
      have hs32 : (r + x * y + c) % 65536 % 4294967296 = (r + x * y + c) % 65536 := by omega
      have hcp : ¬ (j : Int) < (b.length : Int) → c > 0 := by omega
      have xb := limb_is hb j
      rw [hy] at xb
      have ei : wrap64 ((i : Int) + (j : Int)) = ((i + j : Nat) : Int) := by rw [wrap_i (by omega)]; omega
      refine ⟨K + 1, fun k hk => ?_⟩
      obtain ⟨k, rfl⟩ : ∃ j, k = j + 1 := ⟨k - 1, by omega⟩
      have e := hK k (by omega)
      simp only [tumblerref01_mulL.l1]
      rw [ei, xb, xa, hr]
      simp only [Option.bind_some]
      rw [m1, and_u64 _ m2 hs64, Int.toNat_natCast, hs32, wrap_i hj1]
      by_cases g : (j : Int) < (b.length : Int)
      · rw [if_pos g, if_pos hi0, if_pos hin, if_pos hi2, if_pos hi1]; exact e
      · rw [if_neg g, if_pos (hcp g), if_pos hi0, if_pos hin, if_pos hi2, if_pos hi1]; exact e
    · have c0 : c = 0 := by omega
      subst c0
      rw [nv_mod_full hb j (by omega), fin, Int.mul_zero, Int.add_zero] at hv
      obtain ⟨K, hK⟩ := next out ho hl hv
      refine ⟨K + 1, fun k hk => ?_⟩
      obtain ⟨k, rfl⟩ : ∃ j, k = j + 1 := ⟨k - 1, by omega⟩
      have e := hK k (by omega)
      simp only [tumblerref01_mulL.l1]
      rw [if_neg (by omega), if_neg (by omega), wrap_i (by omega)]
      exact e
theorem mulL_out (a b : List Int) (ha : Lm a) (hb : Lm b) (hsa : a.length ≤ 400000000) (hsb : b.length ≤ 400000000) (d : Nat) :
    ∀ (i : Nat) (out : List Int), a.length = i + d → out.length = a.length + b.length → Lm out → nv out = nv a % B i * nv b → Ev (fun k => tumblerref01_mulL.l0 k a b out (i : Int)) (lim (nv a * nv b)) := by
  induction d with
  | zero =>
    intro i out hd ho hl hv
    rw [nv_mod_full ha i (by omega)] at hv
    obtain ⟨K, hK⟩ := Trim_is hl (show Sh out by unfold Sh; omega)
    refine ⟨K + 1, fun k hk => ?_⟩
    obtain ⟨k, rfl⟩ : ∃ j, k = j + 1 := ⟨k - 1, by omega⟩
    have e := hK k (by omega)
    simp only at e
    simp only [tumblerref01_mulL.l0]
    rw [if_neg (by omega), e, hv]; rfl
  | succ d ih =>
    intro i out hd ho hl hv
    obtain ⟨K, hK⟩ := mulL_in a b ha hb hsa hsb i (by omega) _ rfl _ (fun out h1 h2 h3 => ih (i + 1) out (by omega) h1 h2 h3) (b.length + 1) 0 out 0 (by omega) ho hl (by omega) (by rw [B_zero, Int.emod_one, Int.mul_zero, Int.mul_zero, hv]) (by omega)
    refine ⟨K + 1, fun k hk => ?_⟩
    obtain ⟨k, rfl⟩ : ∃ j, k = j + 1 := ⟨k - 1, by omega⟩
    have e := hK k (by omega)
    simp only [tumblerref01_mulL.l0]
    rw [if_pos (by omega)]
    exact e
theorem MulL_is {a b : List Int} (ha : Lm a) (hb : Lm b) (hsa : a.length ≤ 400000000) (hsb : b.length ≤ 400000000) : Ev (fun k => tumblerref01_mulL.f k a b) (lim (nv a * nv b)) := by
  obtain ⟨K, hK⟩ := mulL_out a b ha hb hsa hsb a.length 0 (List.replicate (a.length + b.length) 0) (by omega) (by simp) (Lm_zeros _) (by rw [nv_zeros, B_zero, Int.emod_one, Int.zero_mul])
  refine ⟨K, fun k hk => ?_⟩
  have e := hK k hk
  have ew : wrap64 ((a.length : Int) + (b.length : Int)) = ((a.length + b.length : Nat) : Int) := by rw [wrap_i (by omega)]; omega
  simp only [tumblerref01_mulL.f]
  rw [ew, Int.toNat_natCast, if_pos (by omega), if_pos (by omega)]
  exact e
theorem MulN_is (x y : Int) (hx : Bd x) (hy : Bd y) : Ev (fun k => tumblerref01_MulN.f k (num x).1 (num x).2 (num y).1 (num y).2) (num (x * y)) := by
  have lx := Bd_len hx
  have ly := Bd_len hy
  have nx := mag_nonneg x
  have ny := mag_nonneg y
  simp only [num_neg, num_lim, tumblerref01_MulN.f]
  have mul := MulL_is (mag_Lm x) (mag_Lm y) (by omega) (by omega)
  rw [mag_lim, mag_lim] at mul
  have h0 : 0 ≤ mag x * mag y := Int.mul_nonneg nx ny
  have hb : mag x * mag y < B 2000 := by
    unfold Bd at hx hy
    rw [show 2000 = 1000 + 1000 from rfl, B_add]
    have h1 : mag x * mag y ≤ mag x * B 1000 := Int.mul_le_mul_of_nonneg_left (by omega) nx
    have h2 : mag x * B 1000 < B 1000 * B 1000 := Int.mul_lt_mul_of_pos_right hx (B_pos _)
    omega
  have hl := lim_len _ h0 _ hb
  refine Ev.bind mul (Ev_num (MakeN_is _ _ h0 (by omega)) ?_)
  exact sign_mul x y
/-- addL from round i on. -/
theorem addL_from (a b : List Int) (ha : Lm a) (hb : Lm b) (hsa : a.length ≤ 400000000) (hsb : b.length ≤ 400000000) (d : Nat) : ∀ (i : Nat) (out : List Int) (c : Int), a.length + b.length + 2 ≤ i + d → out.length = i → Lm out → (c = 0 ∨ c = 1) → i ≤ a.length + b.length + 1 → (a.length ≤ i → b.length ≤ i → c ≠ 0 → nv a % B i + nv b % B i = nv a + nv b) →
    nv out + B i * c = nv a % B i + nv b % B i → (i = a.length + b.length + 1 → c = 0) → Ev (fun k => tumblerref01_addL.l0 k a b out c (i : Int)) (lim (nv a + nv b)) := by
  induction d with
  | zero => intro i out c h1 h2 h3 h4 h5; omega
  | succ d ih =>
    intro i out c hd ho hlo hc hi _ hv hlast

    have hna := nv_nonneg ha
    have hnb := nv_nonneg hb
    by_cases go : i < a.length ∨ i < b.length ∨ c > 0
    · have da := digit_range (nv a) i
      have db := digit_range (nv b) i
      have e1 := mod_succ (nv a) i hna
      have e2 := mod_succ (nv b) i hnb
      have hi' : i < a.length + b.length + 1 := by
        rcases Nat.lt_or_eq_of_le hi with h | h
        · exact h
        · have := hlast h; omega
      have hfin : i + 1 = a.length + b.length + 1 → (nv a / B i % 65536 + nv b / B i % 65536 + c) / 65536 = 0 := by
        intro h
        by_cases z : a.length = 0
        · have : a = [] := List.length_eq_zero_iff.1 z
          subst this
          have hx : nv b / B i = 0 := by
            apply Int.ediv_eq_zero_of_lt hnb
            have := nv_lt hb
            rw [show i = b.length by simp at h; omega]; exact this
          simp only [nv, hx] at da db ⊢
          rw [Int.zero_ediv, Int.zero_emod]; omega
        · by_cases z' : b.length = 0
          · have : b = [] := List.length_eq_zero_iff.1 z'
            subst this
            have hx : nv a / B i = 0 := by
              apply Int.ediv_eq_zero_of_lt hna
              have := nv_lt ha
              rw [show i = a.length by simp at h; omega]; exact this
            simp only [nv, hx] at da db ⊢
            rw [Int.zero_ediv, Int.zero_emod]; omega
          · have hx : nv a / B i = 0 := by
              apply Int.ediv_eq_zero_of_lt hna
              have := nv_lt ha
              have h2 : B a.length ≤ B i := by
                rw [show i = a.length + (i - a.length) by omega, B_add]
                have := Int.mul_le_mul_of_nonneg_left (show 1 ≤ B (i - a.length) from B_pos _) (Int.le_of_lt (B_pos a.length))
                omega
              omega
            have hy : nv b / B i = 0 := by
              apply Int.ediv_eq_zero_of_lt hnb
              have := nv_lt hb
              have h2 : B b.length ≤ B i := by
                rw [show i = b.length + (i - b.length) by omega, B_add]
                have := Int.mul_le_mul_of_nonneg_left (show 1 ≤ B (i - b.length) from B_pos _) (Int.le_of_lt (B_pos b.length))
                omega
              omega
            rw [hx, hy, Int.zero_emod]; omega
      generalize hx : nv a / B i % 65536 = x at *
      generalize hy : nv b / B i % 65536 = y at *
      have hB := B_pos i
      obtain ⟨K, hK⟩ := ih (i + 1) (out ++ [(x + y + c) % 65536]) ((x + y + c) / 65536) (by omega) (by simp [ho]) (Lm_snoc hlo (by omega)) (by omega) (by omega) (fun h1 h2 _ => by
          rw [nv_mod_full ha _ h1, nv_mod_full hb _ h2]) (by
          rw [nv_snoc, ho, e1, e2, B_succ]
          have h1 : 65536 * B i * ((x + y + c) / 65536) = B i * (65536 * ((x + y + c) / 65536)) := by rw [Int.mul_comm 65536 (B i), Int.mul_assoc]
          rw [h1, Int.add_assoc, ← Int.mul_add, show (x + y + c) % 65536 + 65536 * ((x + y + c) / 65536) = x + y + c by omega, Int.mul_add, Int.mul_add]
          omega) (by intro h; exact hfin (by omega))
      refine ⟨K + 2, fun k hk => ?_⟩
      obtain ⟨k, rfl⟩ : ∃ j, k = j + 2 := ⟨k - 2, by omega⟩
      have e := hK k (by omega)
      have ej : tumblerref01_addL.j1 (k + 1) a b out c (i : Int) true = some (lim (nv a + nv b)) := by
        simp only [tumblerref01_addL.j1, if_true]
        rw [limb_is ha, limb_is hb, hx, hy]
        simp only [Option.bind_some]
        have es : ((x + y) % 4294967296 + c) % 4294967296 = x + y + c := by omega
        rw [if_pos (by omega), es, and_u32 _ (by omega) (by omega), wrap_i (by omega)]
        exact e
      simp only [tumblerref01_addL.l0]
      by_cases g1 : (i : Int) < (a.length : Int)
      · rw [if_pos g1]; exact ej
      · rw [if_neg g1]
        by_cases g2 : (i : Int) < (b.length : Int)
        · rw [if_pos g2]; exact ej
        · rw [if_neg g2, decide_eq_true (show c > 0 by omega)]; exact ej
    · have c0 : c = 0 := by omega
      subst c0
      rw [Int.mul_zero, Int.add_zero, nv_mod_full ha i (by omega), nv_mod_full hb i (by omega)] at hv
      obtain ⟨K, hK⟩ := Trim_is hlo (show Sh out by unfold Sh; omega)
      refine ⟨K + 2, fun k hk => ?_⟩
      obtain ⟨k, rfl⟩ : ∃ j, k = j + 2 := ⟨k - 2, by omega⟩
      have e := hK k (by omega)
      simp only at e
      simp only [tumblerref01_addL.l0]
      rw [if_neg (by omega), if_neg (by omega), show decide ((0 : Int) > 0) = false from rfl]
      simp only [tumblerref01_addL.j1, Bool.false_eq_true, if_false]
      rw [e, hv]; rfl
theorem AddL_is {a b : List Int} (ha : Lm a) (hb : Lm b) (hsa : a.length ≤ 400000000) (hsb : b.length ≤ 400000000) : Ev (fun k => tumblerref01_addL.f k a b) (lim (nv a + nv b)) := by
  refine addL_from a b ha hb hsa hsb (a.length + b.length + 2) 0 [] 0 (by omega) rfl Lm_nil (.inl rfl) (by omega) (fun _ _ h => absurd rfl h) ?_ (fun _ => rfl)
  rw [B_zero]; simp [nv]
/-- subL from round i on. -/
theorem subL_from (a b : List Int) (ha : Lm a) (hb : Lm b) (hsa : a.length ≤ 400000000) (hab : nv b ≤ nv a) (d : Nat) : ∀ (i : Nat) (out : List Int) (c : Int), a.length = i + d → out.length = i → Lm out → (c = 0 ∨ c = 1) →
    nv out - B i * c = nv a % B i - nv b % B i → Ev (fun k => tumblerref01_subL.l0 k a b out c (i : Int)) (lim (nv a - nv b)) := by
  have hna := nv_nonneg ha
  have hnb := nv_nonneg hb
  induction d with
  | zero =>
    intro i out c hd ho hlo hc hv
    have h1 := nv_lt ha
    have h2 := nv_lt hlo
    have h3 := nv_nonneg hlo
    rw [nv_mod_full ha i (by omega), Int.emod_eq_of_lt hnb (by rw [← show a.length = i by omega]; omega)] at hv
    have c0 : c = 0 := by
      rcases hc with h | h
      · exact h
      · subst h; rw [← show out.length = i from ho] at hv; omega
    subst c0
    obtain ⟨K, hK⟩ := Trim_is hlo (show Sh out by unfold Sh; omega)
    refine ⟨K + 1, fun k hk => ?_⟩
    obtain ⟨k, rfl⟩ : ∃ j, k = j + 1 := ⟨k - 1, by omega⟩
    have e := hK k (by omega)
    simp only at e
    simp only [tumblerref01_subL.l0]
    rw [if_neg (by omega), e, show nv out = nv a - nv b by rw [Int.mul_zero, Int.sub_zero] at hv; exact hv]; rfl
  | succ d ih =>
    intro i out c hd ho hlo hc hv
    have da := digit_range (nv a) i
    have db := digit_range (nv b) i
    have e1 := mod_succ (nv a) i hna
    have e2 := mod_succ (nv b) i hnb
    generalize hx : nv a / B i % 65536 = x at *
    generalize hy : nv b / B i % 65536 = y at *
    obtain ⟨K, hK⟩ := ih (i + 1) (out ++ [(x + 65536 - y - c) % 65536]) (1 - (x + 65536 - y - c) / 65536) (by omega) (by simp [ho]) (Lm_snoc hlo (by omega)) (by omega) (by
        rw [nv_snoc, ho, e1, e2, B_succ]
        have h1 : 65536 * B i * (1 - (x + 65536 - y - c) / 65536) = B i * (65536 * (1 - (x + 65536 - y - c) / 65536)) := by rw [Int.mul_comm 65536 (B i), Int.mul_assoc]
        rw [h1, Int.add_sub_assoc, ← Int.mul_sub, show (x + 65536 - y - c) % 65536 - 65536 * (1 - (x + 65536 - y - c) / 65536) = x - y - c by omega, Int.mul_sub, Int.mul_sub]
        omega)
    refine ⟨K + 1, fun k hk => ?_⟩
    obtain ⟨k, rfl⟩ : ∃ j, k = j + 1 := ⟨k - 1, by omega⟩
    have e := hK k (by omega)
    simp only [tumblerref01_subL.l0]
    rw [if_pos (by omega), limb_is ha, limb_is hb, hx, hy]
    simp only [Option.bind_some]
    have es : ((((x + 65536) % 4294967296 - y) % 4294967296 - c) % 4294967296) = x + 65536 - y - c := by omega
    rw [if_pos (by omega), es, and_u32 _ (by omega) (by omega), wrap_i (by omega), show (1 - (x + 65536 - y - c) / 65536) % 4294967296 = 1 - (x + 65536 - y - c) / 65536 by omega]
    exact e
theorem SubL_is {a b : List Int} (ha : Lm a) (hb : Lm b) (hsa : a.length ≤ 400000000) (hab : nv b ≤ nv a) : Ev (fun k => tumblerref01_subL.f k a b) (lim (nv a - nv b)) := by
  refine subL_from a b ha hb hsa hab a.length 0 [] 0 (by omega) rfl Lm_nil (.inl rfl) ?_
  rw [B_zero]; simp [nv]
theorem div_B_succ (n : Int) (i : Nat) : n / B i = 65536 * (n / B (i + 1)) + n / B i % 65536 := by
  rw [B_succ, Int.mul_comm 65536 (B i), ← Int.ediv_ediv_of_nonneg (Int.le_of_lt (B_pos i))]; omega
theorem div_lt_of {n m : Int} {i : Nat} (h : n / B i < m / B i) : n < m := by
  rcases Int.lt_or_le n m with c | c
  · exact c
  · have := Int.ediv_le_ediv (B_pos i) c; omega
theorem cmpL_from (n m : Int) (hn : 0 ≤ n) (hm : 0 ≤ m) (he : (lim n).length = (lim m).length) (hs : (lim n).length ≤ 1000000000) (i : Nat) : i ≤ (lim n).length → n / B i = m / B i →
    Ev (fun k => tumblerref01_cmpL.l0 k (lim n) (lim m) ((i : Int) - 1)) (cmp n m) := by
  induction i with
  | zero =>
    intro _ h
    rw [B_zero, Int.ediv_one, Int.ediv_one] at h
    refine ⟨1, fun k hk => ?_⟩
    obtain ⟨k, rfl⟩ : ∃ j, k = j + 1 := ⟨k - 1, by omega⟩
    simp only [tumblerref01_cmpL.l0]
    rw [if_neg (by omega)]
    unfold cmp
    rw [if_neg (by omega), if_neg (by omega)]
  | succ i ih =>
    intro hi h
    have e1 := div_B_succ n i
    have e2 := div_B_succ m i
    rw [h] at e1
    have r1 := rd_nv (lim_Lm n hn) i
    have r2 := rd_nv (lim_Lm m hm) i
    rw [nv_lim n hn] at r1
    rw [nv_lim m hm] at r2
    by_cases c : n / B i = m / B i
    · obtain ⟨K, hK⟩ := ih (by omega) c
      refine ⟨K + 1, fun k hk => ?_⟩
      obtain ⟨k, rfl⟩ : ∃ j, k = j + 1 := ⟨k - 1, by omega⟩
      have e := hK k (by omega)
      simp only [tumblerref01_cmpL.l0]
      rw [show (((i + 1 : Nat) : Int) - 1) = (i : Int) by omega, if_pos (by omega), if_pos (by omega), if_pos (by omega), if_pos (by omega), r1, r2, c, if_neg (by omega), if_neg (by omega), wrap_i (by omega)]
      exact e
    · refine ⟨1, fun k hk => ?_⟩
      obtain ⟨k, rfl⟩ : ∃ j, k = j + 1 := ⟨k - 1, by omega⟩
      simp only [tumblerref01_cmpL.l0]
      rw [show (((i + 1 : Nat) : Int) - 1) = (i : Int) by omega, if_pos (by omega), if_pos (by omega), if_pos (by omega), if_pos (by omega), r1, r2]
      unfold cmp
      by_cases g : n / B i < m / B i
      · have := div_lt_of g
        rw [if_pos (by omega), if_pos this]
      · have := div_lt_of (n := m) (m := n) (i := i) (by omega)
        rw [if_neg (by omega), if_pos (by omega), if_neg (by omega), if_pos this]
theorem lim_len_lt {n m : Int} (hn : 0 ≤ n) (hm : 0 ≤ m) (h : (lim n).length < (lim m).length) : n < m := by
  have h1 := nv_lt (lim_Lm n hn)
  rw [nv_lim n hn] at h1
  have hp : 0 < m := (lim_length_pos hm).1 (by omega)
  obtain ⟨k, e, h2, h3⟩ := B_le_lim m hp
  have := B_le (show (lim n).length ≤ k by omega)
  omega
theorem lim_short {l : List Int} (hl : Lm l) : (lim (nv l)).length ≤ l.length := lim_len _ (nv_nonneg hl) _ (nv_lt hl)
theorem CmpL_is {a b : List Int} (ha : Lm a) (hb : Lm b) (hsa : Sh a) (hsb : Sh b) : Ev (fun k => tumblerref01_cmpL.f k a b) (cmp (nv a) (nv b)) := by
  have h0 := nv_nonneg ha
  have h1 := nv_nonneg hb
  have s0 := lim_short ha
  have s1 := lim_short hb
  have t0 := nv_lt ha
  have t1 := nv_lt hb
  unfold Sh at hsa hsb
  simp only [tumblerref01_cmpL.f]
  refine Ev.bind (Trim_is ha hsa) (Ev.bind (Trim_is hb hsb) ?_)
  generalize nv a = n at *
  generalize nv b = m at *
  by_cases c : (lim n).length = (lim m).length
  · have hx : n / B (lim n).length = m / B (lim n).length := by
      have l0 := nv_lt (lim_Lm n h0)
      have l1 := nv_lt (lim_Lm m h1)
      rw [nv_lim n h0] at l0
      rw [nv_lim m h1, ← c] at l1
      rw [Int.ediv_eq_zero_of_lt h0 l0, Int.ediv_eq_zero_of_lt h1 l1]
    obtain ⟨K, hK⟩ := cmpL_from n m h0 h1 c (by omega) _ (Nat.le_refl _) hx
    refine ⟨K, fun k hk => ?_⟩
    show (if _ then _ else _) = _
    rw [if_pos (by omega), wrap_i (by omega)]
    exact hK k hk
  · refine ⟨0, fun k _ => ?_⟩
    show (if _ then _ else _) = _
    rw [if_neg (by omega)]
    unfold cmp
    by_cases g : (lim n).length < (lim m).length
    · have := lim_len_lt h0 h1 g
      rw [if_pos (by omega), if_pos this]
    · have := lim_len_lt h1 h0 (by omega)
      rw [if_neg (by omega), if_neg (by omega), if_pos this]
theorem AddN_is (x y : Int) (hx : Bd x) (hy : Bd y) : Ev (fun k => tumblerref01_AddN.f k (num x).1 (num x).2 (num y).1 (num y).2) (num (x + y)) := by
  have lx := Bd_len hx
  have ly := Bd_len hy
  have nx := mag_nonneg x
  have ny := mag_nonneg y
  have tx := nv_lt (mag_Lm x)
  have ty := nv_lt (mag_Lm y)
  rw [mag_lim] at tx ty
  simp only [num_neg, num_lim, tumblerref01_AddN.f]
  have add := AddL_is (mag_Lm x) (mag_Lm y) (by omega) (by omega)
  have sub := SubL_is (a := lim (mag x)) (b := lim (mag y)) (mag_Lm x) (mag_Lm y) (by omega)
  have bus := SubL_is (a := lim (mag y)) (b := lim (mag x)) (mag_Lm y) (mag_Lm x) (by omega)
  have cm := CmpL_is (mag_Lm x) (mag_Lm y) (show Sh _ by unfold Sh; omega) (show Sh _ by unfold Sh; omega)
  rw [mag_lim, mag_lim] at add sub bus cm
  have bd : ∀ n, 0 ≤ n → n ≤ mag x + mag y → (lim n).length ≤ 1000000000 := fun n h0 h1 => by
    have := lim_len n h0 1001 (by
      unfold Bd at hx hy
      rw [B_succ]; have := B_pos 1000; omega)
    omega
  by_cases c : (decide (x < 0) == decide (y < 0)) = true
  · simp only [c, if_true]
    refine Ev.bind add (Ev_num (MakeN_is _ _ (by omega) (bd _ (by omega) (by omega))) ?_)
    have c' : (x < 0 ↔ y < 0) := by simpa using c
    unfold mag
    by_cases d : x < 0
    · simp only [d, c'.1 d, decide_true, if_true]; omega
    · have : ¬ y < 0 := fun h => d (c'.2 h)
      simp only [d, this, decide_false, Bool.false_eq_true, if_false]
  · simp only [c, Bool.false_eq_true, if_false]
    refine Ev.bind cm ?_
    have c' : ¬ (x < 0 ↔ y < 0) := by simpa using c
    by_cases g : mag y ≤ mag x
    · have e : cmp (mag x) (mag y) ≥ 0 := by unfold cmp; rw [if_neg (by omega)]; split <;> omega
      simp only [e, if_true]
      refine Ev.bind (sub g) (Ev_num (MakeN_is _ _ (by omega) (bd _ (by omega) (by omega))) ?_)
      unfold mag at *
      by_cases d : x < 0
      · have : ¬ y < 0 := fun h => c' ⟨fun _ => h, fun _ => d⟩
        simp only [d, this, decide_true, if_true, if_false]; omega
      · have : y < 0 := by by_cases h : y < 0; exact h; exact absurd ⟨fun z => absurd z d, fun z => absurd z h⟩ c'
        simp only [d, this, decide_false, Bool.false_eq_true, if_true, if_false]; omega
    · have e : ¬ cmp (mag x) (mag y) ≥ 0 := by unfold cmp; rw [if_pos (by omega)]; omega
      simp only [e, if_false]
      refine Ev.bind (bus (by omega)) (Ev_num (MakeN_is _ _ (by omega) (bd _ (by omega) (by omega))) ?_)
      unfold mag at *
      by_cases d : x < 0
      · have : ¬ y < 0 := fun h => c' ⟨fun _ => h, fun _ => d⟩
        simp only [d, this, decide_false, Bool.false_eq_true, if_true, if_false]; omega
      · have : y < 0 := by by_cases h : y < 0; exact h; exact absurd ⟨fun z => absurd z d, fun z => absurd z h⟩ c'
        simp only [d, this, decide_true, if_true, if_false]; omega
theorem RInt_is (n : Int) (hn : Hi n) : Ev (fun k => tumblerref01_Int.f k n) (num n) := by
  have h := From_is (n / 18446744073709551616) (n % 18446744073709551616) (by unfold Hi at *; omega) (U_mod n)
  rw [U_join] at h
  simp only [tumblerref01_Int.f]
  rw [ROf_is n hn]
  simp only [Option.bind_some]
  exact Ev_num h rfl
theorem rdigits_from (l : List UInt8) (hs : l.length ≤ 2000000) (d : Nat) : ∀ i : Nat, i + d = l.length →
    Ev (fun k => tumblerref01_Digits.l0 k (bs l) (i : Int)) ((l.drop i).all (fun c => decide (48 ≤ c.toNat) && decide (c.toNat ≤ 57)) && (decide (l = [48]) || headOk l)) := by
  induction d with
  | zero =>
    intro i hi
    refine ⟨1, fun k hk => ?_⟩
    obtain ⟨k, rfl⟩ : ∃ j, k = j + 1 := ⟨k - 1, by omega⟩
    simp only [tumblerref01_Digits.l0]
    rw [bs_size, if_neg (by omega), bs_list, List.drop_of_length_le (by omega), List.all_nil, Bool.true_and]
    by_cases z : l = [48]
    · rw [if_pos z, decide_eq_true z]; rfl
    · rw [if_neg z, decide_eq_false z, Bool.false_or]
      cases l with
      | nil => simp [headOk]
      | cons c t =>
        rw [if_pos (by simp), if_pos (by simp), show (0 : Int) = ((0 : Nat) : Int) from rfl, bt_bs (c :: t) 0 (by simp)]
        simp only [List.getElem_cons_zero, headOk]
        by_cases h : c.toNat = 48
        · rw [h]; rfl
        · rw [decide_eq_true h]
          congr 1
          simp; omega
  | succ d ih =>
    intro i hi
    have hlt : i < l.length := by omega
    have hd : l.drop i = l[i] :: l.drop (i + 1) := List.drop_eq_getElem_cons hlt
    obtain ⟨K, hK⟩ := ih (i + 1) (by omega)
    refine ⟨K + 1, fun k hk => ?_⟩
    obtain ⟨k, rfl⟩ : ∃ j, k = j + 1 := ⟨k - 1, by omega⟩
    have e := hK k (by omega)
    have e1 : wrap64 ((i : Int) + 1) = ((i + 1 : Nat) : Int) := by unfold wrap64; omega
    simp only at e
    simp only [tumblerref01_Digits.l0]
    rw [bs_size, if_pos (by omega), if_pos (by omega), bt_bs l i hlt, e1, e, hd, List.all_cons]
    by_cases c1 : l[i].toNat < 48
    · rw [if_pos (by omega), decide_eq_false (show ¬ 48 ≤ l[i].toNat by omega)]; simp
    · rw [if_neg (by omega), decide_eq_true (show 48 ≤ l[i].toNat by omega)]
      by_cases c2 : l[i].toNat > 57
      · rw [if_pos (by omega), decide_eq_false (show ¬ l[i].toNat ≤ 57 by omega)]; simp
      · rw [if_neg (by omega), decide_eq_true (show l[i].toNat ≤ 57 by omega)]; simp
theorem RDigits_is (l : List UInt8) (hs : l.length ≤ 2000000) : Ev (fun k => tumblerref01_Digits.f k (bs l)) (okNum l) := by
  have h := rdigits_from l hs l.length 0 (by omega)
  simp only [tumblerref01_Digits.f]
  exact h
theorem RParse_from (l : List UInt8) (hd : ∀ c ∈ l, 48 ≤ c.toNat ∧ c.toNat ≤ 57) (hs : l.length ≤ 40) (b : Bool) (d : Nat) : ∀ (i : Nat), i + d = l.length → (decVal (l.take i) : Int) < 10 ^ i →
    Ev (fun k => tumblerref01_Parse.l0 k b (bs l) (i : Int) (num (decVal (l.take i))).1 (num (decVal (l.take i))).2) (wenc (sgv b (decVal l))) := by
  have e60 : (10 : Int) ^ 40 = 10000000000000000000000000000000000000000 := by decide +kernel
  induction d with
  | zero =>
    intro i hi hm
    have hm' : (decVal (l.take i) : Int) < 10000000000000000000000000000000000000000 := by
      rw [← e60]
      exact Int.lt_of_lt_of_le hm (by exact_mod_cast Nat.pow_le_pow_right (show 0 < 10 by decide) (show i ≤ 40 by omega))
    have bd : Bd (decVal (l.take i) : Int) := Bd_of (by rw [mag_pos (by omega)]; omega)
    have ll := Bd_len bd
    rw [mag_pos (by omega)] at ll
    have mk := MakeN_is b (decVal (l.take i) : Int) (by omega) (by omega)
    have ov := Over_is (sgv b (decVal (l.take i))) (Bd_of (by unfold sgv mag; repeat' split
                                                              all_goals omega))
    obtain ⟨K, hK⟩ := Ev.bind mk (f := fun k bt => (tumblerref01_over.f k bt.1 bt.2).bind fun bt880 => some (bt880.1, bt880.2.1, bt880.2.2)) (r := wenc (sgv b (decVal l))) (by
      have : (if b = true then -((decVal (l.take i) : Nat) : Int) else ((decVal (l.take i) : Nat) : Int)) = sgv b (decVal (l.take i)) := rfl
      rw [this, ← show l.take i = l from List.take_of_length_le (by omega)]
      rw [List.take_take, Nat.min_self]
      exact Ev_three ov)
    refine ⟨K + 1, fun k hk => ?_⟩
    obtain ⟨k, rfl⟩ : ∃ j, k = j + 1 := ⟨k - 1, by omega⟩
    have e := hK k (by omega)
    simp only [tumblerref01_Parse.l0]
    rw [bs_size, if_neg (by omega), num_lim, mag_pos (by omega)]
    exact e
  | succ d ih =>
    intro i hi hm
    have hlt : i < l.length := by omega
    have dg := hd _ (List.getElem_mem hlt)
    have ts := decVal_take_succ l i hlt
    have hm' : (decVal (l.take i) : Int) < 10000000000000000000000000000000000000000 := by
      rw [← e60]
      exact Int.lt_of_lt_of_le hm (by exact_mod_cast Nat.pow_le_pow_right (show 0 < 10 by decide) (show i ≤ 40 by omega))
    have ec : ((l[i].toNat : Int) - 48) % 256 = ((l[i].toNat - 48 : Nat) : Int) := by omega
    have e1 : wrap64 ((i : Int) + 1) = ((i + 1 : Nat) : Int) := by unfold wrap64; omega
    have nx := ih (i + 1) (by omega) (by rw [ts, Int.pow_succ]; omega)
    have bd : Bd (decVal (l.take i) : Int) := Bd_of (by rw [mag_pos (by omega)]; omega)
    have i10 := RInt_is 10 (by unfold Hi; omega)
    have ic := RInt_is ((l[i].toNat - 48 : Nat) : Int) (by unfold Hi; omega)
    have ml := MulN_is (decVal (l.take i) : Int) 10 bd (Bd_of (by decide))
    have ad := AddN_is ((decVal (l.take i) : Int) * 10) ((l[i].toNat - 48 : Nat) : Int) (Bd_of (by rw [mag_pos (by omega)]; omega)) (Bd_of (by rw [mag_pos (by omega)]; omega))
    have em : (decVal (l.take i) : Int) * 10 + ((l[i].toNat - 48 : Nat) : Int) = (decVal (l.take (i + 1)) : Int) := by rw [ts]; omega
    rw [em] at ad
    refine Ev.step (f := fun k => (tumblerref01_Int.f k 10).bind fun bt883 => ((tumblerref01_MulN.f k (num (decVal (l.take i))).1 (num (decVal (l.take i))).2 bt883.1 bt883.2).bind fun bt887 => ((tumblerref01_Int.f k ((l[i].toNat - 48 : Nat) : Int)).bind fun bt891 => ((tumblerref01_AddN.f k bt887.1 bt887.2 bt891.1 bt891.2).bind fun bt895 => (tumblerref01_Parse.l0 k b (bs l) ((i + 1 : Nat) : Int) bt895.1 bt895.2))))) (fun k => ?_) ?_
    · simp only [tumblerref01_Parse.l0]
      have hp : (0 : Int) ≤ (i : Int) := by omega
      rw [bs_size, if_pos (show (i : Int) < (l.length : Int) by omega), bt_bs l i hlt, ec, e1]
      simp only [hp, if_true]
    · exact Ev.bind i10 (Ev.bind ml (Ev.bind ic (Ev.bind ad nx)))
theorem RParse_is (l : List UInt8) (hs : l.length ≤ 2000000) : Ev (fun k => tumblerref01_Parse.f k (bs l)) (parseW l) := by
  have hcl := cutm_len l
  have j2no : ∀ x s, Ev (fun k => tumblerref01_Parse.j2 k x s true) (0, 0, 12) := fun x s => ⟨1, fun k hk => by
    obtain ⟨k, rfl⟩ : ∃ j, k = j + 1 := ⟨k - 1, by omega⟩
    simp only [tumblerref01_Parse.j2, if_true]⟩
  have j2yes : ∀ b d, d.length ≤ 2000000 → okNum d = true → Ev (fun k => tumblerref01_Parse.j2 k b (bs d) false) (wenc (sgv b (decVal d))) := by
    intro b d hd ok
    by_cases g : d.length > 40
    · have := okNum_great ok 40 (by omega) (by decide)
      have e40 : (10 : Nat) ^ 40 = 10000000000000000000000000000000000000000 := by decide +kernel
      rw [wenc_great b (decVal d) (by omega)]
      refine ⟨1, fun k hk => ?_⟩
      obtain ⟨k, rfl⟩ : ∃ j, k = j + 1 := ⟨k - 1, by omega⟩
      simp only [tumblerref01_Parse.j2, Bool.false_eq_true, if_false]
      rw [bs_size, if_pos (by omega)]
    · obtain ⟨K, hK⟩ := RParse_from d (okNum_digits ok) (by omega) b d.length 0 (by omega) (by rw [List.take_zero]; decide)
      simp only [List.take_zero, show decVal [] = 0 from rfl] at hK
      refine ⟨K + 1, fun k hk => ?_⟩
      obtain ⟨k, rfl⟩ : ∃ j, k = j + 1 := ⟨k - 1, by omega⟩
      have e := hK k (by omega)
      simp only [tumblerref01_Parse.j2, Bool.false_eq_true, if_false]
      rw [bs_size, if_neg (by omega)]
      exact e
  have j1 : ∀ b d, d.length ≤ 2000000 → Ev (fun k => tumblerref01_Parse.j1 k b (bs d)) (if okNum d = false ∨ (b = true ∧ d = [48]) then (0, 0, 12) else wenc (sgv b (decVal d))) := by
    intro b d hd
    refine Ev.step (f := fun k => (tumblerref01_Digits.f k (bs d)).bind fun t874 => (if t874 = true then (if b = true then (tumblerref01_Parse.j2 k b (bs d) ((bs d).toList == ([48] : List UInt8))) else (tumblerref01_Parse.j2 k b (bs d) false)) else (tumblerref01_Parse.j2 k b (bs d) true))) (fun k => by simp only [tumblerref01_Parse.j1]) (Ev.bind (RDigits_is d hd) ?_)
    cases ok : okNum d with
    | false =>
      simp only [Bool.false_eq_true, if_false, true_or, if_true]
      exact j2no b _
    | true =>
      simp only [if_true, Bool.true_eq_false, false_or]
      have y := j2yes b d hd ok
      cases b with
      | false =>
        simp only [Bool.false_eq_true, if_false, false_and]
        exact y
      | true =>
        simp only [if_true, true_and, bs_list]
        by_cases z : d = [48]
        · rw [if_pos z, z]
          have : ([48] == ([48] : List UInt8)) = true := rfl
          simp only [this]
          exact j2no true _
        · rw [if_neg z]
          have : (d == ([48] : List UInt8)) = false := by simpa using z
          simp only [this]
          exact y
  have j0 : ∀ b, (b = true → 1 ≤ l.length) → Ev (fun k => tumblerref01_Parse.j0 k (bs l) b) (if okNum (if b = true then l.drop 1 else l) = false ∨ (b = true ∧ (if b = true then l.drop 1 else l) = [48]) then (0, 0, 12) else wenc (sgv b (decVal (if b = true then l.drop 1 else l)))) := by
    intro b h1
    cases b with
    | false =>
      have := j1 false l hs
      refine Ev.step (fun k => ?_) this
      simp only [tumblerref01_Parse.j0, Bool.false_eq_true, if_false]
    | true =>
      have := j1 true (l.drop 1) (by rw [List.length_drop]; omega)
      refine Ev.step (fun k => ?_) this
      simp only [tumblerref01_Parse.j0, if_true]
      rw [bs_size, if_pos (by have := h1 rfl; omega), bs_extract, List.take_of_length_le (by rw [List.length_drop]; omega)]
  simp only [tumblerref01_Parse.f, bs_size]
  unfold parseW
  cases l with
  | nil =>
    simp only [List.length_nil]
    exact j0 false (by simp)
  | cons c t =>
    have h0 : (((c :: t).length : Nat) : Int) > 0 := by simp
    have h0' : (0 : Int) < (((c :: t).length : Nat) : Int) := by simp
    simp only [h0, h0', if_true]
    rw [show bt (bs (c :: t)) 0 = (c.toNat : Int) from bt_bs (c :: t) 0 (by simp)]
    by_cases h : c = 45
    · subst h
      have := j0 true (by simp)
      have e : (((45 : UInt8).toNat : Int) == 45) = true := rfl
      rw [e]
      simpa [cutm] using this
    · have := j0 false (by simp)
      have e : ((c.toNat : Int) == 45) = false := by
        rw [beq_eq_false_iff_ne]
        intro g
        exact h (UInt8.toNat_inj.1 (by rw [show (45 : UInt8).toNat = 45 from rfl]; omega))
      rw [e]
      simpa [cutm, h] using this
theorem WideParses : tumblerlaw01_WideParses.Pure := by
  intro s hs
  refine Ev_rounds (g := fun k => tumblerlaw01_WideParses.f k s) ?_
  have hl : s.data.toList.length ≤ 2000000 := by
    have : s.data.toList.length = s.size := Array.length_toList
    omega
  have p := WParse_is s.data.toList hl
  have r := RParse_is s.data.toList hl
  rw [bs_of] at p r
  simp only [tumblerlaw01_WideParses.f]
  refine Ev.bind p (Ev.bind r ?_)
  simp only [beq_self_eq_true, Bool.and_self, if_true]
  exact Ev.bind alive_is (Ev.now _)
end Go.Proofs.YtcfhmbhlibhlnaaDoor.MM
