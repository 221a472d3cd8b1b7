/- What MicroReads says of whole numbers and texts alone, and why it holds: this session's own texts in one. -/
import Derived.Test.YtcfhmbhlibhlnaaDoorMine
import Derived.Test.YtcfhmbhlibhlnaaDoorPx0
import Derived.Test.YtcfhmbhlibhlnaaDoorPxf91
import Derived.Test.YtcfhmbhlibhlnaaDoorPxf116
import Derived.Test.YtcfhmbhlibhlnaaDoorPxf113
import Derived.Test.YtcfhmbhlibhlnaaDoorPxf88
import Derived.Test.YtcfhmbhlibhlnaaDoorPxf90
import Derived.Test.YtcfhmbhlibhlnaaDoorPxf128
import Derived.Test.YtcfhmbhlibhlnaaDoorPxf95
import Derived.Test.YtcfhmbhlibhlnaaDoorPxf94
import Derived.Test.YtcfhmbhlibhlnaaDoorPxg0
import Derived.Test.YtcfhmbhlibhlnaaDoorPxf72
import Derived.Test.YtcfhmbhlibhlnaaDoorPxf117
import Derived.Test.YtcfhmbhlibhlnaaDoorPxf93
import Derived.Test.YtcfhmbhlibhlnaaDoorPxf60
import Derived.Test.YtcfhmbhlibhlnaaDoorPxf62
import Derived.Test.YtcfhmbhlibhlnaaDoorPxf31
import Derived.Test.YtcfhmbhlibhlnaaDoorPxf39
import Derived.Test.YtcfhmbhlibhlnaaDoorPxg1
import Derived.Test.YtcfhmbhlibhlnaaDoorPxf45
import Derived.Test.YtcfhmbhlibhlnaaDoorPxf27
import Derived.Test.YtcfhmbhlibhlnaaDoorPxf92
import Derived.Test.YtcfhmbhlibhlnaaDoorPxf58
import Derived.Test.YtcfhmbhlibhlnaaDoorPxf59
import Derived.Test.YtcfhmbhlibhlnaaDoorPxf65
import Derived.Test.YtcfhmbhlibhlnaaDoorPxf25
import Derived.Test.YtcfhmbhlibhlnaaDoorPxf54
import Derived.Test.YtcfhmbhlibhlnaaDoorPxf56
import Derived.Test.YtcfhmbhlibhlnaaDoorPxf61
import Derived.Test.YtcfhmbhlibhlnaaDoorPxf22
namespace Go.Proofs.YtcfhmbhlibhlnaaDoor.MM
open Go.RowKit Go.Proofs.YtcfhmbhlibhlnaaDoor.P Go.Proofs.YtcfhmbhlibhlnaaDoorW.PrintWords Go.Proofs.YtcfhmbhlibhlnaaDoorW.PrintMore Go.Proofs.YtcfhmbhlibhlnaaDoor.Mine
set_option linter.unusedVariables false
set_option linter.unusedSimpArgs false
theorem Ev_rounds {α : Type} {g : Nat → Option α} {r : α} (h : Ev g r) : ∃ k, g k = some r := by
 obtain ⟨K, h⟩ := h
 exact ⟨K, h K (Nat.le_refl _)⟩
theorem wrap_u64 (n : Int) : IntKind.u64.wrap n = n % 18446744073709551616 := by simp [IntKind.wrap, IntKind.bits, IntKind.signed]
theorem wraps_u64 (n : Int) (h₀ : 0 ≤ n) (h₁ : n < 2 ^ 64) : IntKind.u64.wrap n = n := by rw [wrap_u64]; omega
theorem and_one (x : Int) (h0 : 0 ≤ x) (h1 : x < 18446744073709551616) : Go.bits .and .u64 x 1 = x % 2 :=
 bits_mask .u64 64 (by decide) wraps_u64 1 (by decide) x h0 (by simpa using h1)
theorem and_low (x : Int) (h0 : 0 ≤ x) (h1 : x < 18446744073709551616) : Go.bits .and .u64 x 4294967295 = x % 4294967296 :=
 bits_mask .u64 64 (by decide) wraps_u64 32 (by decide) x h0 (by simpa using h1)
theorem or_one (x y : Int) (h0 : 0 ≤ x) (h1 : x < 18446744073709551616) (h2 : x % 2 = 0) (h3 : 0 ≤ y) (h4 : y < 2) : Go.bits .or .u64 x y = x + y :=
 bits_join .u64 64 (by decide) wraps_u64 1 x y h0 (by simpa using h2) (by simpa using h1) h3 (by simpa using h4) (by simp; omega)
theorem two_lt (j : Nat) : (2 : Int) ^ j < 2 ^ (j + 1) := by
 have hz : (0 : Int) < 2 ^ j := Int.pow_pos (by decide)
 rw [Int.pow_succ]; omega
theorem two_le {j i : Nat} (h : j ≤ i) : (2 : Int) ^ j ≤ 2 ^ i := by
 have h : (2 : Nat) ^ j ≤ 2 ^ i := Nat.pow_le_pow_right (by decide) h
 exact_mod_cast h
theorem or_bit (x : Int) (j : Nat) (hj : j < 64) (h0 : 0 ≤ x) (h1 : x < 18446744073709551616) (h2 : x % 2 ^ (j + 1) = 0) : Go.bits .or .u64 x (2 ^ j) = x + 2 ^ j := by
 have hp := two_lt j
 have hq : (2 : Int) ^ (j + 1) ≤ 2 ^ 64 := two_le (by omega)
 have hz : (0 : Int) < 2 ^ j := Int.pow_pos (by decide)
 exact bits_join .u64 64 (by decide) wraps_u64 (j + 1) x (2 ^ j) h0 h2 (by simpa using h1) (Int.le_of_lt hz) hp (by omega)
theorem xor_all (x : Int) (h0 : 0 ≤ x) (h1 : x < 18446744073709551616) : Go.bits .xor .u64 18446744073709551615 x = 18446744073709551615 - x := by
 obtain ⟨a, rfl⟩ := Int.eq_ofNat_of_zero_le h0
 have ha : a < 2 ^ 64 := by omega
 have e : (BitVec.ofInt 64 18446744073709551615) ^^^ (BitVec.ofInt 64 (a : Int)) = ~~~ (BitVec.ofNat 64 a) := by
  rw [BitVec.ofInt_natCast, show BitVec.ofInt 64 18446744073709551615 = BitVec.allOnes 64 by decide, BitVec.allOnes_xor]
 show IntKind.u64.wrap (((BitVec.ofInt 64 18446744073709551615) ^^^ (BitVec.ofInt 64 (a : Int))).toNat : Int) = _
 rw [e, BitVec.toNat_not, BitVec.toNat_ofNat, Nat.mod_eq_of_lt ha, wrap_u64]
 omega
theorem shl_one (i : Int) (h0 : 0 ≤ i) (h1 : i < 64) : shl .u64 1 i = 2 ^ i.toNat := by
 have e : min i.toNat (IntKind.u64.bits) = i.toNat := by show min i.toNat 64 = _; omega
 unfold shl; rw [e, Int.one_mul]
 apply wraps_u64 _ (Int.le_of_lt (Int.pow_pos (by decide)))
 have h : (2 : Nat) ^ i.toNat < 2 ^ 64 := Nat.pow_lt_pow_right (by decide) (by omega)
 exact_mod_cast h
theorem shr_at (x i : Int) (h0 : 0 ≤ i) (h1 : i < 64) : shr .u64 x i = x / 2 ^ i.toNat := by
 have e : min i.toNat (IntKind.u64.bits) = i.toNat := by show min i.toNat 64 = _; omega
 unfold shr; rw [e]
def U (x : Int) : Prop := 0 ≤ x ∧ x < 18446744073709551616
theorem pair2 {α β : Type} {a a' : α} {b b' : β} (h : a = a') (h' : b = b') : some (a, b) = some (a', b') := by subst h h'; rfl
theorem trip {α β γ : Type} {a a' : α} {b b' : β} {c c' : γ} (h : a = a') (h' : b = b') (h'' : c = c') : some (a, b, c) = some (a', b', c') := by subst h h' h''; rfl
def Hi (x : Int) : Prop := -9223372036854775808 ≤ x ∧ x ≤ 9223372036854775807
def mag (v : Int) : Int := if v < 0 then -v else v
theorem mag_pos {v : Int} (h : 0 ≤ v) : mag v = v := if_neg (by omega)
theorem mag_neg {v : Int} (h : v < 0) : mag v = -v := if_pos h
theorem mag_nonneg (v : Int) : 0 ≤ mag v := by unfold mag; split <;> omega
theorem two_pos (j : Nat) : (0 : Int) < 2 ^ j := Int.pow_pos (by decide)
theorem halve (n : Int) (j : Nat) : n / 2 ^ (j + 1) = n / 2 ^ j / 2 := by
 rw [Int.pow_succ, ← Int.ediv_ediv_of_nonneg (Int.le_of_lt (two_pos j))]
theorem two_split (n : Int) (j : Nat) : n / 2 ^ j = 2 * (n / 2 ^ (j + 1)) + n / 2 ^ j % 2 := by
 rw [halve]; omega
theorem two_add (a b : Nat) : (2 : Int) ^ (a + b) = 2 ^ a * 2 ^ b := Int.pow_add 2 a b
theorem low_bit (A : Int) (j : Nat) (hj : j < 64) : A % 18446744073709551616 / 2 ^ j % 2 = A / 2 ^ j % 2 := by
 have e : (18446744073709551616 : Int) = 2 ^ j * (2 ^ (63 - j) * 2) := by
  rw [← Int.pow_succ, ← two_add, show j + (63 - j + 1) = 64 by omega]; rfl
 have h := Int.emod_add_mul_ediv A 18446744073709551616
 have k : A / 2 ^ j = A % 18446744073709551616 / 2 ^ j + 2 ^ (63 - j) * 2 * (A / 18446744073709551616) := by
  have h' : A = A % 18446744073709551616 + (2 ^ (63 - j) * 2 * (A / 18446744073709551616)) * 2 ^ j := by
   rw [Int.mul_comm _ ((2 : Int) ^ j), ← Int.mul_assoc ((2 : Int) ^ j), ← e]; exact h.symm
  conv => lhs; rw [h']
  rw [Int.add_mul_ediv_right _ _ (by have := two_pos j; omega)]
 rw [k, Int.mul_comm ((2 : Int) ^ (63 - j)) 2, Int.mul_assoc]
 omega
theorem high_bit (A : Int) (j : Nat) (hj : 64 ≤ j) : A / 18446744073709551616 / 2 ^ (j - 64) = A / 2 ^ j := by
 rw [Int.ediv_ediv_of_nonneg (by decide), show (18446744073709551616 : Int) = 2 ^ 64 by rfl, ← two_add, show 64 + (j - 64) = j by omega]
theorem set_high (Q : Int) (j : Nat) (hj : 64 ≤ j) (hj' : j < 128) (h0 : 0 ≤ Q) (h1 : Q < 340282366920938463463374607431768211456) (hd : Q % 2 ^ (j + 1) = 0) :
  Go.bits .or .u64 (Q / 18446744073709551616) (2 ^ (j - 64)) = (Q + 2 ^ j) / 18446744073709551616 ∧ Q % 18446744073709551616 = (Q + 2 ^ j) % 18446744073709551616 := by
 have e : (2 : Int) ^ j = 2 ^ (j - 64) * 18446744073709551616 := by
  rw [show (18446744073709551616 : Int) = 2 ^ 64 by rfl, ← two_add, show j - 64 + 64 = j by omega]
 have e1 : (2 : Int) ^ (j + 1) = 2 ^ (j - 64 + 1) * 18446744073709551616 := by
  rw [show (18446744073709551616 : Int) = 2 ^ 64 by rfl, ← two_add, show j - 64 + 1 + 64 = j + 1 by omega]
 obtain ⟨c, hc⟩ := Int.dvd_of_emod_eq_zero hd
 have q : Q / 18446744073709551616 = 2 ^ (j - 64 + 1) * c := by
  rw [hc, e1, Int.mul_assoc, Int.mul_comm 18446744073709551616, ← Int.mul_assoc, Int.mul_ediv_cancel _ (by decide)]
 rw [e, Int.add_mul_ediv_right _ _ (by decide), Int.add_mul_emod_self_right]
 refine ⟨or_bit _ _ (by omega) (by omega) (by omega) ?_, rfl⟩
 rw [q, Int.mul_emod_right]
theorem set_low (Q : Int) (j : Nat) (hj : j < 64) (h0 : 0 ≤ Q) (hd : Q % 2 ^ (j + 1) = 0) :
  Go.bits .or .u64 (Q % 18446744073709551616) (2 ^ j) = (Q + 2 ^ j) % 18446744073709551616 ∧ Q / 18446744073709551616 = (Q + 2 ^ j) / 18446744073709551616 := by
 have e : (18446744073709551616 : Int) = 2 ^ (j + 1) * 2 ^ (63 - j) := by
  rw [← two_add, show j + 1 + (63 - j) = 64 by omega]; rfl
 have hp := two_pos (j + 1)
 have hq := two_lt j
 have hr := two_pos j
 obtain ⟨c, hc⟩ := Int.dvd_of_emod_eq_zero hd
 have m : Q % 18446744073709551616 = 2 ^ (j + 1) * (c % 2 ^ (63 - j)) := by
  rw [hc, e, Int.mul_emod_mul_of_pos _ _ hp]
 have s := Int.emod_lt_of_pos c (two_pos (63 - j))
 have t : 2 ^ (j + 1) * (c % 2 ^ (63 - j) + 1) ≤ (18446744073709551616 : Int) := by
  rw [e]; exact Int.mul_le_mul_of_nonneg_left (by omega) (Int.le_of_lt hp)
 rw [Int.mul_add, Int.mul_one, ← m] at t
 have z : Q % 18446744073709551616 % 2 ^ (j + 1) = 0 := by rw [m, Int.mul_emod_right]
 rw [or_bit _ j hj (by omega) (by omega) z]
 omega
theorem quo_next (A n : Int) (j : Nat) (hA : 0 ≤ A) (hn : 0 < n) (b : Int) (hb : b = A / 2 ^ j % 2) :
  (2 * (A / 2 ^ (j + 1) % n) + b < n → A / 2 ^ j % n = 2 * (A / 2 ^ (j + 1) % n) + b ∧ A / 2 ^ j / n * 2 ^ j = A / 2 ^ (j + 1) / n * 2 ^ (j + 1)) ∧
  (n ≤ 2 * (A / 2 ^ (j + 1) % n) + b → A / 2 ^ j % n = 2 * (A / 2 ^ (j + 1) % n) + b - n ∧ A / 2 ^ j / n * 2 ^ j = A / 2 ^ (j + 1) / n * 2 ^ (j + 1) + 2 ^ j) := by
 have hs := two_split A j
 rw [← hb] at hs
 have hb0 : b = 0 ∨ b = 1 := by omega
 have he := Int.emod_add_mul_ediv (A / 2 ^ (j + 1)) n
 have h0 := Int.emod_nonneg (A / 2 ^ (j + 1)) (show n ≠ 0 by omega)
 have h1 := Int.emod_lt_of_pos (A / 2 ^ (j + 1)) hn
 have hp : (2 : Int) ^ (j + 1) = 2 * 2 ^ j := by rw [Int.pow_succ, Int.mul_comm]
 generalize A / 2 ^ (j + 1) / n = q at *
 generalize A / 2 ^ (j + 1) % n = r at *
 generalize A / 2 ^ (j + 1) = P at *
 have hA2 : A / 2 ^ j = n * (2 * q) + (2 * r + b) := by
  have : n * (2 * q) = 2 * (n * q) := by rw [← Int.mul_assoc, Int.mul_comm n 2, Int.mul_assoc]
  omega
 constructor
 ·intro hlt
  rw [hA2, Int.mul_add_emod_self_left, Int.add_comm (n * (2 * q)), Int.add_mul_ediv_left _ _ (by omega), Int.emod_eq_of_lt (by omega) hlt, Int.ediv_eq_zero_of_lt (by omega) hlt, hp]
  refine ⟨rfl, ?_⟩
  rw [Int.zero_add, Int.mul_comm 2 q, Int.mul_assoc]
 ·intro hge
  have hA3 : A / 2 ^ j = n * (2 * q + 1) + (2 * r + b - n) := by rw [hA2, Int.mul_add]; omega
  rw [hA3, Int.mul_add_emod_self_left, Int.add_comm (n * (2 * q + 1)), Int.add_mul_ediv_left _ _ (by omega), Int.emod_eq_of_lt (by omega) (by omega), Int.ediv_eq_zero_of_lt (by omega) (by omega), hp]
  refine ⟨rfl, ?_⟩
  rw [Int.zero_add, Int.add_mul, Int.mul_comm 2 q, Int.mul_assoc, Int.one_mul]
theorem quo_room (A n : Int) (j : Nat) (hA : 0 ≤ A) (hA' : A < 340282366920938463463374607431768211456) (hn : 0 < n) :
  0 ≤ A / 2 ^ (j + 1) / n * 2 ^ (j + 1) ∧ A / 2 ^ (j + 1) / n * 2 ^ (j + 1) < 340282366920938463463374607431768211456 ∧ A / 2 ^ (j + 1) / n * 2 ^ (j + 1) % 2 ^ (j + 1) = 0 := by
 have hp := two_pos (j + 1)
 have h0 : 0 ≤ A / 2 ^ (j + 1) := Int.ediv_nonneg hA (Int.le_of_lt hp)
 have h1 : A / 2 ^ (j + 1) / n ≤ A / 2 ^ (j + 1) := Int.ediv_le_self _ h0
 have h2 : A / 2 ^ (j + 1) / n * 2 ^ (j + 1) ≤ A / 2 ^ (j + 1) * 2 ^ (j + 1) := Int.mul_le_mul_of_nonneg_right h1 (Int.le_of_lt hp)
 have h3 : A / 2 ^ (j + 1) * 2 ^ (j + 1) ≤ A := Int.ediv_mul_le _ (by omega)
 have h4 : 0 ≤ A / 2 ^ (j + 1) / n := Int.ediv_nonneg h0 (Int.le_of_lt hn)
 exact ⟨Int.mul_nonneg h4 (Int.le_of_lt hp), by omega, Int.mul_emod_left _ _⟩
theorem mag_lt (h l : Int) (hh : Hi h) (hl : U l) : mag (h * 18446744073709551616 + l) ≤ 170141183460469231731687303715884105728 := by
 unfold Hi U mag at *
 split <;> omega
theorem U_mod (x : Int) : U (x % 18446744073709551616) := by unfold U; omega
theorem U_div (x : Int) (h : 0 ≤ x) (h' : x < 340282366920938463463374607431768211456) : U (x / 18446744073709551616) := by unfold U; omega
theorem U_join (x : Int) : x / 18446744073709551616 * 18446744073709551616 + x % 18446744073709551616 = x := by omega
theorem tdiv_at (m : Nat) (h : m < 128) : wrap64 (Int.tdiv (m : Int) 64) = ((m / 64 : Nat) : Int) := by
 rw [Int.tdiv_eq_ediv_of_nonneg (by omega)]
 unfold wrap64
 omega
theorem tmod_at (m : Nat) : IntKind.u64.wrap (Int.tmod (m : Int) 64) = ((m % 64 : Nat) : Int) := by
 rw [Int.tmod_eq_emod_of_nonneg (by omega)]
 exact wraps_u64 _ (by omega) (by omega)
theorem bit_at (y : Int) (m : Nat) (h0 : 0 ≤ y) (h1 : y < 18446744073709551616) : Go.bits .and .u64 (shr .u64 y ((m % 64 : Nat) : Int)) 1 = y / 2 ^ (m % 64) % 2 := by
 have hz : 0 ≤ y / 2 ^ (m % 64) := Int.ediv_nonneg h0 (Int.le_of_lt (two_pos _))
 have hz' : y / 2 ^ (m % 64) ≤ y := Int.ediv_le_self _ h0
 rw [shr_at _ _ (by omega) (by omega), Int.toNat_natCast, and_one _ hz (by omega)]
theorem bit_high (A : Int) (m : Nat) (hA : 0 ≤ A) (hA' : A < 340282366920938463463374607431768211456) (h : 64 ≤ m) (h' : m < 128) : Go.bits .and .u64 (shr .u64 (A / 18446744073709551616) ((m % 64 : Nat) : Int)) 1 = A / 2 ^ m % 2 := by
 rw [bit_at _ _ (by omega) (by omega), show m % 64 = m - 64 by omega, high_bit A m h]
theorem bit_low (A : Int) (m : Nat) (h : m < 64) : Go.bits .and .u64 (shr .u64 (A % 18446744073709551616) ((m % 64 : Nat) : Int)) 1 = A / 2 ^ m % 2 := by
 rw [bit_at _ _ (by omega) (by omega), show m % 64 = m by omega, low_bit A m h]
theorem sign_mul (v w : Int) : (if ((decide (v < 0)) != (decide (w < 0))) = true then -(mag v * mag w) else mag v * mag w) = v * w := by
 unfold mag
 by_cases c : v < 0 <;> by_cases d : w < 0 <;> simp [c, d, Int.neg_mul, Int.mul_neg]
theorem Hi_neg (h l : Int) (hl : U l) : decide (h < 0) = decide (h * 18446744073709551616 + l < 0) := by
 unfold U at hl; exact decide_eq_decide.2 (by omega)
theorem tdiv_mag (v w : Int) (hw : w ≠ 0) : Int.tdiv v w = (if ((decide (v < 0)) != (decide (w < 0))) = true then -(mag v / mag w) else mag v / mag w) ∧ Int.tmod v w = (if decide (v < 0) = true then -(mag v % mag w) else mag v % mag w) := by
 unfold mag
 by_cases c : v < 0 <;> by_cases d : w < 0 <;> simp only [c, d, decide_true, decide_false, if_true, if_false, bne_self_eq_false, Bool.false_eq_true, Bool.true_bne, Bool.not_false, Bool.false_bne, bne_iff_ne, ne_eq, not_false_eq_true, reduceCtorEq]
 ·obtain ⟨a, rfl⟩ : ∃ a, v = -a := ⟨-v, by omega⟩
  obtain ⟨b, rfl⟩ : ∃ b, w = -b := ⟨-w, by omega⟩
  rw [Int.neg_tdiv, Int.tdiv_neg, Int.neg_neg, Int.neg_tmod, Int.tmod_neg, Int.neg_neg, Int.neg_neg, Int.tdiv_eq_ediv_of_nonneg (by omega), Int.tmod_eq_emod_of_nonneg (by omega)]
  exact ⟨rfl, rfl⟩
 ·obtain ⟨a, rfl⟩ : ∃ a, v = -a := ⟨-v, by omega⟩
  rw [Int.neg_tdiv, Int.neg_tmod, Int.neg_neg, Int.tdiv_eq_ediv_of_nonneg (by omega), Int.tmod_eq_emod_of_nonneg (by omega)]
  exact ⟨rfl, rfl⟩
 ·obtain ⟨b, rfl⟩ : ∃ b, w = -b := ⟨-w, by omega⟩
  rw [Int.tdiv_neg, Int.tmod_neg, Int.neg_neg, Int.tdiv_eq_ediv_of_nonneg (by omega), Int.tmod_eq_emod_of_nonneg (by omega)]
  exact ⟨rfl, rfl⟩
 ·rw [Int.tdiv_eq_ediv_of_nonneg (by omega), Int.tmod_eq_emod_of_nonneg (by omega)]
  exact ⟨rfl, rfl⟩
theorem round_quo (v t : Int) (ht : 1 ≤ t) : Int.tdiv v t = (if v < 0 then -(mag v / t) else mag v / t) ∧ Int.tmod v t = (if v < 0 then -(mag v % t) else mag v % t) := by
 obtain ⟨a, b⟩ := tdiv_mag v t (by omega)
 rw [show mag t = t from mag_pos (by omega)] at a b
 rw [show decide (t < 0) = false from decide_eq_false (by omega), Bool.bne_false] at a
 simp only [decide_eq_true_eq] at a b
 exact ⟨a, b⟩
def bs (l : List UInt8) : ByteArray := ⟨l.toArray⟩
theorem bs_size (l : List UInt8) : (bs l).size = l.length := by simp [bs, ByteArray.size]
theorem bs_app (a b : List UInt8) : bs a ++ bs b = bs (a ++ b) := by
 apply ByteArray.ext; simp [bs]
theorem bs_of (s : ByteArray) : bs s.data.toList = s := by
 apply ByteArray.ext; simp [bs]
theorem bs_list (l : List UInt8) : (bs l).toList = l := by
 rw [ByteArray.toList_eq]; simp [bs]
def dig (u : Nat) : UInt8 := UInt8.ofNat (48 + u)
theorem dec_small {u : Nat} (h : u < 10) : Lib.decDigits u = [dig u] := by rw [Lib.decDigits, dif_pos h]; rfl
theorem dec_big {u : Nat} (h : ¬ u < 10) : Lib.decDigits u = Lib.decDigits (u / 10) ++ [dig (u % 10)] := by rw [Lib.decDigits, dif_neg h]; rfl
theorem dec_len {u k : Nat} (h : u < 10 ^ (k + 1)) : (Lib.decDigits u).length ≤ k + 1 := by
 induction k generalizing u with
 | zero => rw [dec_small (by simpa using h)]; simp
 | succ k ih =>
  by_cases c : u < 10
  ·rw [dec_small c]; simp
  ·rw [dec_big c, List.length_append]
   have := ih (u := u / 10) (by rw [Nat.pow_succ] at h; omega)
   simp; omega
theorem dec_pos (u : Nat) : 1 ≤ (Lib.decDigits u).length := by rw [Lib.decDigits_length]; exact Lib.nDigits_pos u
def pad (k b : Nat) : List UInt8 := List.replicate (k - (Lib.decDigits b).length) 48 ++ Lib.decDigits b
theorem pad_one {b : Nat} (h : b < 10) : pad 1 b = [dig b] := by unfold pad; rw [dec_small h]; rfl
theorem pad_succ (k b : Nat) (hk : 1 ≤ k) (h : b < 10 ^ (k + 1)) : pad (k + 1) b = pad k (b / 10) ++ [dig (b % 10)] := by
 unfold pad
 by_cases c : b < 10
 ·rw [dec_small c, show b / 10 = 0 by omega, show b % 10 = b by omega, dec_small (by decide)]
  simp only [List.length_singleton]
  rw [show k + 1 - 1 = (k - 1) + 1 by omega, List.replicate_succ', List.append_assoc, List.append_assoc]
  rfl
 ·have hl := dec_pos (b / 10)
  rw [dec_big c, List.length_append, List.append_assoc]
  simp only [List.length_singleton]
  rw [show k + 1 - ((Lib.decDigits (b / 10)).length + 1) = k - (Lib.decDigits (b / 10)).length by omega]
theorem dec_split (a k b : Nat) (ha : 0 < a) (hk : 1 ≤ k) (h : b < 10 ^ k) : Lib.decDigits (a * 10 ^ k + b) = Lib.decDigits a ++ pad k b := by
 obtain ⟨k, rfl⟩ : ∃ j, k = j + 1 := ⟨k - 1, by omega⟩
 induction k generalizing b with
 | zero =>
  have h : b < 10 := by simpa using h
  simp only [Nat.zero_add, Nat.pow_one]
  rw [dec_big (by omega), show (a * 10 + b) / 10 = a by omega, show (a * 10 + b) % 10 = b by omega, pad_one h]
 | succ k ih =>
  have hp : 1 ≤ 10 ^ (k + 1) := Nat.one_le_pow _ _ (by decide)
  have hm : a * 10 ^ (k + 1) ≥ 10 ^ (k + 1) := Nat.le_mul_of_pos_left _ ha
  have e : a * 10 ^ (k + 1 + 1) = (a * 10 ^ (k + 1)) * 10 := by rw [Nat.pow_succ, Nat.mul_assoc]
  rw [pad_succ (k + 1) b (by omega) h, ← List.append_assoc, ← ih (b / 10) (by omega) (by rw [Nat.pow_succ] at h; omega), e]
  have hb : 10 ≤ 10 ^ (k + 1) := by rw [Nat.pow_succ]; have : 1 ≤ 10 ^ k := Nat.one_le_pow _ _ (by decide); omega
  rw [dec_big (by omega), show (a * 10 ^ (k + 1) * 10 + b) / 10 = a * 10 ^ (k + 1) + b / 10 by omega, show (a * 10 ^ (k + 1) * 10 + b) % 10 = b % 10 by omega]
theorem repeat_zero (n : Nat) : Lib.repeatL [48] n = List.replicate n 48 := by
 have := Lib.repeatL_replicate 48 1 n
 simpa using this
def decVal (l : List UInt8) : Nat := l.foldl (fun n c => n * 10 + (c.toNat - 48)) 0
theorem decVal_snoc (l : List UInt8) (c : UInt8) : decVal (l ++ [c]) = decVal l * 10 + (c.toNat - 48) := by simp [decVal]
theorem dig_toNat {u : Nat} (h : u < 10) : (dig u).toNat = 48 + u := by
 unfold dig; rw [UInt8.toNat_ofNat']; omega
theorem dec_head (u : Nat) (h : 0 < u) : ∃ c l, Lib.decDigits u = c :: l ∧ 49 ≤ c.toNat := by
 induction u using Nat.strongRecOn with
 | ind u ih =>
  by_cases c : u < 10
  ·exact ⟨dig u, [], dec_small c, by rw [dig_toNat c]; omega⟩
  ·obtain ⟨x, l, e, hx⟩ := ih (u / 10) (by omega) (by omega)
   exact ⟨x, l ++ [dig (u % 10)], by rw [dec_big c, e]; rfl, hx⟩
theorem bs_extract (l : List UInt8) (i j : Nat) : (bs l).extract i j = bs ((l.drop i).take (j - i)) := by
 exact ByteArray.extract_mk l i j
theorem bt_bs (l : List UInt8) (i : Nat) (h : i < l.length) : bt (bs l) (i : Int) = (l[i].toNat : Int) := by
 have h' : i < (bs l).size := by rw [bs_size]; exact h
 have e := bt_at (bs l) (i : Int) (by rw [Int.toNat_natCast]; exact h')
 rw [← e]
 congr 1
def cutm : List UInt8 → List UInt8 × Bool
 | c :: t => if c = 45 then (t, true) else (c :: t, false)
 | [] => ([], false)
theorem cutm_len (l : List UInt8) : (cutm l).1.length ≤ l.length := by
 cases l with
 | nil => simp [cutm]
 | cons c t =>
  unfold cutm
  by_cases h : c = 45
  ·simp [h]
  ·simp [h]
theorem decVal_app_le (a b : List UInt8) : decVal a ≤ decVal (a ++ b) := by
 have : ∀ n, ∀ b : List UInt8, b.length = n → decVal a ≤ decVal (a ++ b) := by
  intro n
  induction n with
  | zero => intro b hb; obtain rfl := List.length_eq_zero_iff.1 hb; simp
  | succ n ih =>
   intro b hb
   obtain ⟨c, x, rfl⟩ : ∃ c x, b = c ++ [x] := ⟨b.dropLast, b.getLast (by intro e; subst e; simp at hb), (List.dropLast_concat_getLast _).symm⟩
   have := ih c (by simpa using hb)
   rw [← List.append_assoc, decVal_snoc]; omega
 exact this _ b rfl
theorem decVal_take_le (l : List UInt8) (i : Nat) : decVal (l.take i) ≤ decVal l := by
 have := decVal_app_le (l.take i) (l.drop i)
 rwa [List.take_append_drop] at this
theorem decVal_take_succ (l : List UInt8) (i : Nat) (h : i < l.length) : decVal (l.take (i + 1)) = decVal (l.take i) * 10 + (l[i].toNat - 48) := by
 rw [List.take_succ_eq_append_getElem h, decVal_snoc]
def isd (c : UInt8) : Bool := decide (48 ≤ c.toNat) && decide (c.toNat ≤ 57)
theorem isd_yes {c : UInt8} (h : isd c = true) : 48 ≤ c.toNat ∧ c.toNat ≤ 57 := by
 unfold isd at h; simpa using h
theorem isd_no {c : UInt8} (h : isd c = false) : ¬ (48 ≤ c.toNat ∧ c.toNat ≤ 57) := by
 intro g
 unfold isd at h
 rw [decide_eq_true g.1, decide_eq_true g.2] at h
 exact absurd h (by decide)
def decT (t : List UInt8) : Option (List UInt8 × List UInt8) :=
 if t.takeWhile isd = [] then none else match t.dropWhile isd with
  | [] => some (t.takeWhile isd, [])
  | c :: r => if c = 46 then (if r.takeWhile isd = [] then none else if r.dropWhile isd = [] then some (t.takeWhile isd, r.takeWhile isd) else none) else none
def decOf (l : List UInt8) : Option (Bool × List UInt8 × List UInt8) := (decT (cutm l).1).map fun p => ((cutm l).2, p.1, p.2)
theorem take_dig (t : List UInt8) : ∀ c ∈ t.takeWhile isd, 48 ≤ c.toNat ∧ c.toNat ≤ 57 := by
 induction t with
 | nil => intro c h; simp at h
 | cons x t ih =>
  intro c h
  rw [List.takeWhile_cons] at h
  by_cases hx : isd x = true
  ·rw [if_pos hx] at h
   rcases List.mem_cons.1 h with rfl | h
   ·exact isd_yes hx
   ·exact ih c h
  ·rw [if_neg hx] at h; simp at h
theorem drop_head {t : List UInt8} {c : UInt8} {r : List UInt8} (h : t.dropWhile isd = c :: r) : isd c = false := by
 induction t with
 | nil => simp at h
 | cons x t ih =>
  rw [List.dropWhile_cons] at h
  by_cases hx : isd x = true
  ·rw [if_pos hx] at h; exact ih h
  ·rw [if_neg hx] at h
   injection h with h1 h2
   subst h1
   simpa using hx
theorem take_drop (t : List UInt8) : t.takeWhile isd ++ t.dropWhile isd = t := List.takeWhile_append_dropWhile
def ints (l : List UInt8) : List Int := l.map fun c => (c.toNat : Int)
theorem ints_bs (l : List UInt8) : strOfNums (ints l) = bs l := by
 unfold strOfNums ints bs
 rw [List.map_map]
 congr 2
 induction l with
 | nil => rfl
 | cons c t ih =>
  rw [List.map_cons, ih]
  congr 1
  simp
theorem rdL_run (t : List UInt8) : ∀ (i : Nat) (b : Bool) (ds : List Int) (pt : Bool) (wh fr : Int),
  rdL t i (b, ds, pt, wh, fr) = rdL (t.dropWhile isd) (i + (t.takeWhile isd).length) (b, ds ++ ints (t.takeWhile isd), pt, (if pt = true then wh else wh + ((t.takeWhile isd).length : Int)), (if pt = true then fr + ((t.takeWhile isd).length : Int) else fr)) := by
 induction t with
 | nil => intro i b ds pt wh fr; cases pt <;> simp [rdL, ints]
 | cons x t ih =>
  intro i b ds pt wh fr
  by_cases hx : isd x = true
  ·have g := isd_yes hx
   rw [List.takeWhile_cons, List.dropWhile_cons, if_pos hx, if_pos hx]
   show (rdStep i (x.toNat : Int) (b, ds, pt, wh, fr)).bind (rdL t (i + 1)) = _
   unfold rdStep
   simp only []
   rw [if_neg (by omega), if_pos (by omega)]
   simp only [Option.bind_some]
   rw [ih, List.length_cons, show i + 1 + (t.takeWhile isd).length = i + ((t.takeWhile isd).length + 1) by omega]
   congr 1
   cases pt <;> simp [ints] <;> omega
  ·rw [List.takeWhile_cons, List.dropWhile_cons, if_neg hx, if_neg hx]
   cases pt <;> simp [ints]
theorem rdL_bad (c : UInt8) (r : List UInt8) (i : Nat) (b : Bool) (ds : List Int) (pt : Bool) (wh fr : Int) (h1 : isd c = false) (h2 : ¬ (c = 45 ∧ i = 0)) (h3 : ¬ (c = 46 ∧ pt = false ∧ 0 < wh)) : rdL (c :: r) i (b, ds, pt, wh, fr) = none := by
 have g := isd_no h1
 show (rdStep i (c.toNat : Int) (b, ds, pt, wh, fr)).bind (rdL r (i + 1)) = _
 unfold rdStep
 simp only []
 rw [if_neg (fun h => h2 ⟨UInt8.toNat_inj.1 (by rw [show (45 : UInt8).toNat = 45 from rfl]; omega), h.2⟩), if_neg (by omega), if_neg (fun h => h3 ⟨UInt8.toNat_inj.1 (by rw [show (46 : UInt8).toNat = 46 from rfl]; omega), h.2⟩)]
 rfl
theorem rdL_point (r : List UInt8) (i : Nat) (b : Bool) (ds : List Int) (wh fr : Int) (h : 0 < wh) : rdL (46 :: r) i (b, ds, false, wh, fr) = rdL r (i + 1) (b, ds, true, wh, fr) := by
 show (rdStep i (((46 : UInt8).toNat : Nat) : Int) (b, ds, false, wh, fr)).bind (rdL r (i + 1)) = _
 unfold rdStep
 simp only []
 rw [show (((46 : UInt8).toNat : Nat) : Int) = 46 from rfl, if_neg (fun h => absurd h.1 (by decide)), if_neg (by decide), if_pos ⟨rfl, trivial, h⟩]
 rfl
def readR (b : Bool) : Option (List UInt8 × List UInt8) → Bool × ByteArray × Int × Bool
 | none => (false, ⟨#[]⟩, 0, false)
 | some p => (b, bs (p.1 ++ p.2), (p.2.length : Int), true)
theorem rd_tail (t : List UInt8) (i : Nat) (b : Bool) (hi : 0 < i ∨ ∀ c r, t = c :: r → c ≠ 45) : rdEnd (rdL t i (b, [], false, 0, 0)) = readR b (decT t) := by
 rw [rdL_run]
 unfold decT
 have td := take_drop t
 generalize hW : t.takeWhile isd = W at *
 cases hR : t.dropWhile isd with
 | nil =>
  simp only [rdL, Bool.false_eq_true, if_false, List.nil_append, Int.zero_add]
  by_cases w0 : W = []
  ·rw [if_pos w0]; subst w0; simp [rdEnd, readR]
  ·have : W.length ≠ 0 := fun h => w0 (List.length_eq_zero_iff.1 h)
   rw [if_neg w0]
   unfold rdEnd readR
   simp only []
   rw [if_neg (by simp; omega), ints_bs, List.append_nil]
   rfl
 | cons c r =>
  have hc := drop_head hR
  rw [hR] at td
  simp only [Bool.false_eq_true, if_false, List.nil_append, Int.zero_add]
  by_cases w0 : W = []
  ·rw [if_pos w0, rdL_bad c r _ _ _ _ _ _ hc ?_ ?_]
   ·rfl
   ·intro h
    rcases hi with hi | hi
    ·omega
    ·subst w0; exact hi c r td.symm h.1
   ·subst w0; intro h; exact absurd h.2.2 (by decide)
  ·have wl : W.length ≠ 0 := fun h => w0 (List.length_eq_zero_iff.1 h)
   rw [if_neg w0]
   by_cases c46 : c = 46
   ·subst c46
    rw [if_pos rfl, rdL_point _ _ _ _ _ _ (by omega), rdL_run]
    generalize hF : r.takeWhile isd = F at *
    simp only [if_true, Int.zero_add]
    cases hR2 : r.dropWhile isd with
    | nil =>
     simp only [rdL, if_true]
     unfold rdEnd
     simp only []
     by_cases f0 : F = []
     ·subst f0; rw [if_pos rfl, if_pos (by simp)]; rfl
     ·have fl : F.length ≠ 0 := fun h => f0 (List.length_eq_zero_iff.1 h)
      rw [if_neg f0, if_neg (by omega)]
      unfold readR
      simp only []
      rw [show ints W ++ ints F = ints (W ++ F) by simp [ints], ints_bs]
    | cons c' r' =>
     have hc' := drop_head hR2
     rw [rdL_bad c' r' _ _ _ _ _ _ hc' (fun h => by omega) (fun h => by cases h.2.1)]
     by_cases f0 : F = []
     ·rw [if_pos f0]; rfl
     ·rw [if_neg f0, if_neg (by simp)]; rfl
   ·rw [if_neg c46, rdL_bad c r _ _ _ _ _ _ hc (fun h => by omega) (fun h => c46 h.1)]
    rfl
theorem cutm_cons (c : UInt8) (t : List UInt8) : cutm (c :: t) = if c = 45 then (t, true) else (c :: t, false) := rfl
theorem read_is (l : List UInt8) (h : l.length ≤ 1073741824) : micro_read.f (bs l) = some (readR (cutm l).2 (decT (cutm l).1)) := by
 unfold micro_read.f
 rw [if_pos (by rw [bs_size]; exact h)]
 congr 1
 show rdEnd (rdL l 0 (false, [], false, 0, 0)) = _
 cases l with
 | nil => exact rd_tail [] 0 false (Or.inr (fun c r h => by cases h))
 | cons c t =>
  rw [cutm_cons]
  by_cases c45 : c = 45
  ·subst c45
   rw [if_pos rfl]
   rw [← rd_tail t 1 true (Or.inl (by decide))]
   rfl
  ·rw [if_neg c45]
   exact rd_tail (c :: t) 0 false (Or.inr (fun c' r h => by injection h with h1 h2; subst h1; exact c45))
theorem Ev_step {α : Type} {g : Nat → Option α} {r : α} (h : Ev (fun k => g (k + 1)) r) : Ev g r := by
 obtain ⟨K, h⟩ := h
 refine ⟨K + 1, fun k hk => ?_⟩
 obtain ⟨k, rfl⟩ : ∃ j, k = j + 1 := ⟨k - 1, by omega⟩
 exact h k (by omega)
theorem Ev_to {α : Type} {g g' : Nat → Option α} {r : α} (h' : Ev g' r) (h : ∀ k, g (k + 1) = g' k) : Ev g r := Ev_step (by
 rw [show (fun k => g (k + 1)) = g' from funext h]
 exact h')
theorem dig_int {l p t : List UInt8} {c : UInt8} (h : p ++ c :: t = l) : bt (bs l) (p.length : Int) = (c.toNat : Int) ∧ (p.length : Int) < ((bs l).size : Int) ∧ (p ++ [c]) ++ t = l ∧ p.length + 1 ≤ l.length := by
 subst h
 have hl : p.length < (p ++ c :: t).length := by simp
 refine ⟨?_, ?_, by simp, by simp⟩
 ·rw [bt_bs _ _ hl]; simp
 ·rw [bs_size]; exact_mod_cast hl
theorem wrap_suc (n : Nat) (h : n ≤ 2000000) : wrap64 ((n : Int) + 1) = ((n + 1 : Nat) : Int) := by unfold wrap64; omega
theorem l0_run (l : List UInt8) (hs : l.length ≤ 1048576) (fr : Nat) (b : Bool) (R : Bool × ByteArray × ByteArray × Bool) (t : List UInt8) : ∀ p, p ++ t = l →
  Ev (fun k => tumblerref02_Take.j3 k (bs l) ((p.length + (t.takeWhile isd).length : Nat) : Int) (fr : Int) b (bs []) (bs [])) R →
  Ev (fun k => tumblerref02_Take.l0 k (bs l) (p.length : Int) (fr : Int) b (bs []) (bs [])) R := by
 induction t with
 | nil =>
  intro p hp h
  have : p.length = l.length := by rw [← hp]; simp
  refine Ev_to h (fun k => ?_)
  simp only [tumblerref02_Take.l0]
  rw [if_neg (by rw [bs_size]; omega)]
  rfl
 | cons c t ih =>
  intro p hp h
  obtain ⟨e1, e2, e3, e4⟩ := dig_int hp
  rw [List.takeWhile_cons] at h
  by_cases hc : isd c = true
  ·have g := isd_yes hc
   rw [if_pos hc] at h
   rw [List.length_cons, show p.length + ((t.takeWhile isd).length + 1) = (p ++ [c]).length + (t.takeWhile isd).length by simp; omega] at h
   refine Ev_to (ih (p ++ [c]) e3 h) (fun k => ?_)
   simp only [tumblerref02_Take.l0]
   rw [if_pos e2, if_pos (Int.natCast_nonneg _), e1, wrap_suc _ (by omega), if_pos (by omega), if_pos (by omega), List.length_append]
   rfl
  ·rw [if_neg hc] at h
   have g := isd_no (by simpa using hc : isd c = false)
   refine Ev_to h (fun k => ?_)
   simp only [tumblerref02_Take.l0]
   rw [if_pos e2, if_pos (Int.natCast_nonneg _), e1]
   by_cases c48 : (c.toNat : Int) ≥ 48
   ·rw [if_pos c48, if_neg (by omega)]; rfl
   ·rw [if_neg c48]; rfl
theorem l1_run (l : List UInt8) (hs : l.length ≤ 1048576) (fr : Nat) (b : Bool) (W : ByteArray) (t : List UInt8) : ∀ p, p ++ t = l → fr ≤ p.length →
  Ev (fun k => tumblerref02_Take.l1 k (bs l) (p.length : Int) (fr : Int) b W (bs [])) (b, W, bs ((l.drop fr).take (p.length + (t.takeWhile isd).length - fr)), (if t.dropWhile isd = [] then decide (p.length + (t.takeWhile isd).length > fr) else false)) := by
 induction t with
 | nil =>
  intro p hp hf
  refine Ev_step ⟨0, fun k _ => ?_⟩
  simp only [tumblerref02_Take.l1]
  have : p.length = l.length := by rw [← hp]; simp
  rw [if_neg (by rw [bs_size]; omega), if_pos (Int.natCast_nonneg _), if_pos (by omega), if_pos (by rw [bs_size]; omega), if_pos (by rw [bs_size]; omega), bs_extract]
  simp
 | cons c t ih =>
  intro p hp hf
  obtain ⟨e1, e2, e3, e4⟩ := dig_int hp
  rw [List.takeWhile_cons, List.dropWhile_cons]
  by_cases hc : isd c = true
  ·have g := isd_yes hc
   have this := ih (p ++ [c]) e3 (by simp; omega)
   rw [List.length_append, List.length_singleton] at this
   rw [if_pos hc, if_pos hc, List.length_cons, show p.length + ((t.takeWhile isd).length + 1) = p.length + 1 + (t.takeWhile isd).length by omega]
   refine Ev_to this (fun k => ?_)
   simp only [tumblerref02_Take.l1]
   rw [if_pos e2, if_pos (Int.natCast_nonneg _), e1, wrap_suc _ (by omega), if_pos (by omega), if_pos (by omega)]
  ·have g := isd_no (by simpa using hc : isd c = false)
   rw [if_neg hc, if_neg hc, if_neg (by simp)]
   have e5 : ¬ (p.length : Int) = ((bs l).size : Int) := by omega
   have last : (if (0 : Int) ≤ (fr : Int) then if (fr : Int) ≤ (p.length : Int) then if (p.length : Int) ≤ ((bs l).size : Int) then if (p.length : Int) = ((bs l).size : Int) then some (b, W, (bs l).extract (fr : Int).toNat (p.length : Int).toNat, decide ((p.length : Int) > (fr : Int))) else some (b, W, (bs l).extract (fr : Int).toNat (p.length : Int).toNat, false) else none else none else none) =
     some (b, W, bs ((l.drop fr).take (p.length + 0 - fr)), false) := by
    rw [if_pos (Int.natCast_nonneg _), if_pos (by omega), if_pos (by omega), if_neg e5, bs_extract]
    rfl
   refine Ev_step ⟨0, fun k _ => ?_⟩
   simp only [tumblerref02_Take.l1]
   rw [if_pos e2, if_pos (Int.natCast_nonneg _), e1]
   by_cases c48 : (c.toNat : Int) ≥ 48
   ·rw [if_pos c48, if_neg (by omega)]; exact last
   ·rw [if_neg c48]; exact last
def TakeOk (o : Option (List UInt8 × List UInt8)) (b : Bool) (r : Bool × ByteArray × ByteArray × Bool) : Prop :=
 match o with
 | none => r.2.2.2 = false
 | some p => r = (b, bs p.1, bs p.2, true)
theorem take_own (t : List UInt8) : t.take (t.takeWhile isd).length = t.takeWhile isd := by
 conv => lhs; arg 2; rw [← take_drop t]
 rw [List.take_left]
theorem j1_is (l p t : List UInt8) (hs : l.length ≤ 1048576) (b : Bool) (hp : p ++ t = l) : ∃ r, TakeOk (decT t) b r ∧ Ev (fun k => tumblerref02_Take.j1 k (bs l) (p.length : Int) b (bs []) (bs [])) r := by
 have td := take_drop t
 have hd : l.drop p.length = t := by rw [← hp]; simp
 have sub : ∀ r, Ev (fun k => tumblerref02_Take.j3 k (bs l) ((p.length + (t.takeWhile isd).length : Nat) : Int) (p.length : Int) b (bs []) (bs [])) r → Ev (fun k => tumblerref02_Take.j1 k (bs l) (p.length : Int) b (bs []) (bs [])) r := by
  intro r h
  refine Ev_step ?_
  simp only [tumblerref02_Take.j1]
  exact l0_run l hs p.length b r t p hp h
 have ex : (bs l).extract (p.length : Int).toNat ((p.length + (t.takeWhile isd).length : Nat) : Int).toNat = bs (t.takeWhile isd) := by
  rw [Int.toNat_natCast, Int.toNat_natCast, bs_extract, hd, Nat.add_sub_cancel_left]
  exact congrArg bs (take_own t)
 have len : l.length = p.length + ((t.takeWhile isd).length + (t.dropWhile isd).length) := by
  rw [← hp, List.length_append]
  have := congrArg List.length td
  rw [List.length_append] at this
  omega
 unfold decT
 generalize hW : t.takeWhile isd = W at *
 by_cases w0 : W = []
 ·rw [if_pos w0]
  subst w0
  refine ⟨(b, bs [], bs [], false), rfl, sub _ (Ev_step ⟨0, fun k _ => ?_⟩)⟩
  simp only [tumblerref02_Take.j3]
  rw [ex, if_pos (Int.natCast_nonneg _), if_pos (by omega), if_pos (by rw [bs_size]; omega), if_pos (by simp)]
 ·have wl : W.length ≠ 0 := fun h => w0 (List.length_eq_zero_iff.1 h)
  rw [if_neg w0]
  cases hR : t.dropWhile isd with
  | nil =>
   rw [hR] at len
   refine ⟨(b, bs W, bs [], true), rfl, sub _ (Ev_step ⟨0, fun k _ => ?_⟩)⟩
   simp only [tumblerref02_Take.j3]
   rw [ex, if_pos (Int.natCast_nonneg _), if_pos (by omega), if_pos (by rw [bs_size, len]; simp), if_neg (by omega), if_pos (by rw [bs_size, len]; simp)]
  | cons c r =>
   rw [hR] at len td
   rw [List.length_cons] at len
   have hp2 : (p ++ W) ++ c :: r = l := by rw [List.append_assoc, td, hp]
   obtain ⟨e1, e2, e3, e4⟩ := dig_int hp2
   rw [List.length_append] at e1 e2 e4
   simp only []
   by_cases c46 : c = 46
   ·subst c46
    rw [if_pos rfl]
    have run := l1_run l hs (p.length + W.length + 1) b (bs W) r (p ++ W ++ [(46 : UInt8)]) e3 (by simp; omega)
    have hd2 : l.drop (p.length + W.length + 1) = r := by
     rw [← e3, show p.length + W.length + 1 = (p ++ W ++ [(46 : UInt8)]).length by simp; omega, List.drop_left]
    rw [hd2, show (p ++ W ++ [(46 : UInt8)]).length = p.length + W.length + 1 by simp; omega, Nat.add_sub_cancel_left, take_own r] at run
    refine ⟨(b, bs W, bs (r.takeWhile isd), if r.dropWhile isd = [] then decide (p.length + W.length + 1 + (r.takeWhile isd).length > p.length + W.length + 1) else false), ?_, sub _ ?_⟩
    case refine_2 =>
     refine Ev_to run (fun k => ?_)
     simp only [tumblerref02_Take.j3]
     rw [ex, if_pos (Int.natCast_nonneg _), if_pos (by omega), if_pos (by omega), if_neg (by omega), if_neg (by omega), if_pos (Int.natCast_nonneg _), if_pos e2, e1, if_pos (by decide), wrap_suc _ (by omega)]
    case refine_1 =>
     generalize r.takeWhile isd = F
     by_cases f0 : F = []
     ·rw [if_pos f0]; subst f0; unfold TakeOk; simp
     ·have fl : F.length ≠ 0 := fun h => f0 (List.length_eq_zero_iff.1 h)
      rw [if_neg f0]
      by_cases r0 : r.dropWhile isd = []
      ·rw [if_pos r0, if_pos r0, decide_eq_true (by omega)]; rfl
      ·rw [if_neg r0, if_neg r0]; rfl
   ·rw [if_neg c46]
    have nc : ¬ (c.toNat : Int) = 46 := fun h => c46 (UInt8.toNat_inj.1 (by rw [show (46 : UInt8).toNat = 46 from rfl]; omega))
    refine ⟨(b, bs W, bs [], false), rfl, sub _ (Ev_step ⟨0, fun k _ => ?_⟩)⟩
    simp only [tumblerref02_Take.j3]
    rw [ex, if_pos (Int.natCast_nonneg _), if_pos (by omega), if_pos (by omega), if_neg (by omega), if_neg (by omega), if_pos (Int.natCast_nonneg _), if_pos e2, e1, if_neg nc]
theorem Take_is (l : List UInt8) (hs : l.length ≤ 1048576) : ∃ r, TakeOk (decT (cutm l).1) (cutm l).2 r ∧ Ev (fun k => tumblerref02_Take.f k (bs l)) r := by
 cases l with
 | nil =>
  obtain ⟨r, h1, h2⟩ := j1_is [] [] [] (by decide) false rfl
  refine ⟨r, h1, ?_⟩
  have e0 : ¬ ((bs []).size : Int) > 0 := by rw [bs_size]; decide
  simp only [tumblerref02_Take.f, e0, if_false]
  refine Ev_to h2 (fun k => ?_)
  simp only [tumblerref02_Take.j0, Bool.false_eq_true, if_false]
  rfl
 | cons c t =>
  obtain ⟨e1, e2, e3, e4⟩ := dig_int (l := c :: t) (p := []) (c := c) (t := t) rfl
  rw [List.length_nil] at e1 e2
  rw [cutm_cons]
  by_cases c45 : c = 45
  ·subst c45
   obtain ⟨r, h1, h2⟩ := j1_is (45 :: t) [45] t hs true rfl
   refine ⟨r, h1, ?_⟩
   have e1' : bt (bs (45 :: t)) 0 = 45 := e1
   have e2' : ((bs (45 :: t)).size : Int) > 0 := by omega
   simp only [tumblerref02_Take.f, e2', show 0 < ((bs (45 :: t)).size : Int) from e2', if_true]
   refine Ev_to h2 (fun k => ?_)
   simp only [tumblerref02_Take.j0, e1', beq_self_eq_true, if_true]
   rfl
  ·obtain ⟨r, h1, h2⟩ := j1_is (c :: t) [] (c :: t) hs false rfl
   rw [if_neg c45]
   refine ⟨r, h1, ?_⟩
   have e2' : ((bs (c :: t)).size : Int) > 0 := by omega
   simp only [tumblerref02_Take.f, e2', show 0 < ((bs (c :: t)).size : Int) from e2', if_true]
   refine Ev_to h2 (fun k => ?_)
   have e1' : bt (bs (c :: t)) 0 = (c.toNat : Int) := e1
   have nc : ((c.toNat : Int) == 45) = false := beq_eq_false_iff_ne.mpr fun h => c45 (UInt8.toNat_inj.1 (by rw [show (45 : UInt8).toNat = 45 from rfl]; omega))
   simp only [tumblerref02_Take.j0, e1', nc, Bool.false_eq_true, if_false]
   rfl
theorem Plus_is (S T : Int) (hS : 0 ≤ S) (hT : 0 ≤ T) :
  tumblerref02_Plus.f (S % 340282366920938463463374607431768211456 / 18446744073709551616) (S % 18446744073709551616) (decide (340282366920938463463374607431768211456 ≤ S))
   (T % 340282366920938463463374607431768211456 / 18446744073709551616) (T % 18446744073709551616) (decide (340282366920938463463374607431768211456 ≤ T)) =
  some ((S + T) % 340282366920938463463374607431768211456 / 18446744073709551616, (S + T) % 18446744073709551616, decide (340282366920938463463374607431768211456 ≤ S + T)) := by
 unfold tumblerref02_Plus.f
 simp only [wrap_u64, decide_eq_true_eq]
 repeat' split
 all_goals
  refine trip (by omega) (by omega) ?_
  first | exact (decide_eq_true (by omega)).symm | exact (decide_eq_false (by omega)).symm | exact decide_eq_decide.2 (by omega)
theorem Plus_fits (h l h' l' : Int) (hh : U h) (hl : U l) (hh' : U h') (hl' : U l') (hs : (h * 18446744073709551616 + l) + (h' * 18446744073709551616 + l') < 340282366920938463463374607431768211456) :
  tumblerref02_Plus.f h l false h' l' false = some (((h * 18446744073709551616 + l) + (h' * 18446744073709551616 + l')) / 18446744073709551616, ((h * 18446744073709551616 + l) + (h' * 18446744073709551616 + l')) % 18446744073709551616, false) := by
 unfold U at *
 have e := Plus_is (h * 18446744073709551616 + l) (h' * 18446744073709551616 + l') (by omega) (by omega)
 rw [show (h * 18446744073709551616 + l) % 340282366920938463463374607431768211456 / 18446744073709551616 = h by omega, show (h * 18446744073709551616 + l) % 18446744073709551616 = l by omega,
  show (h' * 18446744073709551616 + l') % 340282366920938463463374607431768211456 / 18446744073709551616 = h' by omega, show (h' * 18446744073709551616 + l') % 18446744073709551616 = l' by omega,
  show decide (340282366920938463463374607431768211456 ≤ h * 18446744073709551616 + l) = false from decide_eq_false (by omega),
  show decide (340282366920938463463374607431768211456 ≤ h' * 18446744073709551616 + l') = false from decide_eq_false (by omega),
  show decide (340282366920938463463374607431768211456 ≤ h * 18446744073709551616 + l + (h' * 18446744073709551616 + l')) = false from decide_eq_false (by omega)] at e
 rw [e]
 simp only [Option.some.injEq, Prod.mk.injEq, and_true]
 omega
theorem Times_from (a n : Int) (ha : 0 ≤ a) (hn : U n) (m : Nat) : m ≤ 64 → ∀ S, S = a * (n / 2 ^ m) →
  Ev (fun k => tumblerref02_Times.l0 k n ((m : Int) - 1) (a % 340282366920938463463374607431768211456 / 18446744073709551616) (a % 18446744073709551616) (decide (340282366920938463463374607431768211456 ≤ a))
   (S % 340282366920938463463374607431768211456 / 18446744073709551616) (S % 18446744073709551616) (decide (340282366920938463463374607431768211456 ≤ S)))
   (a * n % 340282366920938463463374607431768211456 / 18446744073709551616, a * n % 18446744073709551616, decide (340282366920938463463374607431768211456 ≤ a * n)) := by
 induction m with
 | zero =>
  intro _ S hS
  refine ⟨1, fun k hk => ?_⟩
  obtain ⟨k, rfl⟩ : ∃ j, k = j + 1 := ⟨k - 1, by omega⟩
  simp only [tumblerref02_Times.l0]
  rw [if_neg (by decide), hS, Int.pow_zero, Int.ediv_one]
 | succ m ih =>
  intro hm S hS
  have hb := two_split n m
  have hS0 : 0 ≤ S := by rw [hS]; exact Int.mul_nonneg ha (Int.ediv_nonneg hn.1 (Int.le_of_lt (two_pos _)))
  have hb' : n / 2 ^ m % 2 = 0 ∨ n / 2 ^ m % 2 = 1 := by omega
  have hi : ((m : Int) + 1 - 1) = m := by omega
  have hw : IntKind.u64.wrap (m : Int) = m := wraps_u64 _ (by omega) (by omega)
  have hbit : Go.bits .and .u64 (shr .u64 n (m : Int)) 1 = n / 2 ^ m % 2 := by
   rw [shr_at _ _ (by omega) (by omega), Int.toNat_natCast]
   have h0 : 0 ≤ n / 2 ^ m := Int.ediv_nonneg hn.1 (Int.le_of_lt (two_pos _))
   have h1 : n / 2 ^ m ≤ n := Int.ediv_le_self _ hn.1
   exact and_one _ h0 (by unfold U at hn; omega)
  have hnext : wrap64 ((m : Int) - 1) = (m : Int) - 1 := by unfold wrap64; omega
  rcases hb' with hb' | hb'
  ·obtain ⟨K, hK⟩ := ih (by omega) (S + S) (by rw [hS, hb, hb', Int.add_zero, ← Int.mul_assoc, Int.mul_comm a 2, Int.mul_assoc]; omega)
   refine ⟨K + 1, fun k hk => ?_⟩
   obtain ⟨k, rfl⟩ : ∃ j, k = j + 1 := ⟨k - 1, by omega⟩
   simp only [tumblerref02_Times.l0, Int.natCast_succ]
   rw [hi, if_pos (by omega), Plus_is S S hS0 hS0]
   simp only [Option.bind_some]
   rw [hw, if_pos (by omega), hbit, hb', if_neg (by decide), hnext]
   exact hK k (by omega)
  ·obtain ⟨K, hK⟩ := ih (by omega) (S + S + a) (by rw [hS, hb, hb', Int.mul_add, Int.mul_one, ← Int.mul_assoc, Int.mul_comm a 2, Int.mul_assoc]; omega)
   refine ⟨K + 1, fun k hk => ?_⟩
   obtain ⟨k, rfl⟩ : ∃ j, k = j + 1 := ⟨k - 1, by omega⟩
   simp only [tumblerref02_Times.l0, Int.natCast_succ]
   rw [hi, if_pos (by omega), Plus_is S S hS0 hS0]
   simp only [Option.bind_some]
   rw [hw, if_pos (by omega), hbit, hb', if_pos rfl, Plus_is (S + S) a (by omega) ha]
   simp only [Option.bind_some]
   rw [hnext]
   exact hK k (by omega)
theorem Times_is (h l n : Int) (hh : U h) (hl : U l) (hn : U n) :
  Ev (fun k => tumblerref02_Times.f k h l false n)
   ((h * 18446744073709551616 + l) * n % 340282366920938463463374607431768211456 / 18446744073709551616, (h * 18446744073709551616 + l) * n % 18446744073709551616, decide (340282366920938463463374607431768211456 ≤ (h * 18446744073709551616 + l) * n)) := by
 unfold U at hh hl
 have e := Times_from (h * 18446744073709551616 + l) n (by omega) hn 64 (by omega) 0 (by
  have : n / 2 ^ 64 = 0 := by unfold U at hn; omega
  rw [this, Int.mul_zero])
 rw [show (h * 18446744073709551616 + l) % 340282366920938463463374607431768211456 / 18446744073709551616 = h by omega, show (h * 18446744073709551616 + l) % 18446744073709551616 = l by omega,
  show decide (340282366920938463463374607431768211456 ≤ h * 18446744073709551616 + l) = false from decide_eq_false (by omega)] at e
 exact e
def signedOf (M : Int) (b : Bool) : Int × Int × Bool :=
 if M > 170141183460469231731687303715884105728 ∨ M = 170141183460469231731687303715884105728 ∧ b = false then (0, 0, false) else ((if b = true then -M else M) / 18446744073709551616, (if b = true then -M else M) % 18446744073709551616, true)
theorem Signed_is (h l : Int) (b : Bool) (hh : U h) (hl : U l) : Ev (fun k => tumblerref02_Signed.f k h l false b) (signedOf (h * 18446744073709551616 + l) b) := ⟨1, fun k hk => by
 obtain ⟨k, rfl⟩ : ∃ m, k = m + 1 := ⟨k - 1, by omega⟩
 unfold U at *
 unfold tumblerref02_Signed.f signedOf
 simp only [tumblerref02_Signed.j0]
 rw [xor_all _ hh.1 hh.2, xor_all _ hl.1 hl.2]
 cases b <;> simp only [Bool.false_eq_true, if_false, if_true, Bool.not_true, Bool.not_false, reduceCtorEq, and_false, and_true, or_false, wrap64]
 ·repeat' split
  all_goals first | rfl | (exfalso; omega) | exact trip (by omega) (by omega) rfl
 ·by_cases c5 : h * 18446744073709551616 + l = 0
  ·obtain rfl : h = 0 := by omega
   obtain rfl : l = 0 := by omega
   simp [tumblerref02_Plus.f, wrap_u64]
  ·rw [Plus_fits _ _ _ _ (by unfold U; omega) (by unfold U; omega) (by unfold U; omega) (by unfold U; omega) (by omega)]
   simp only [Option.bind_some]
   repeat' split
   all_goals first | rfl | (exfalso; omega) | exact trip (by omega) (by omega) rfl⟩
theorem subHi_is (x y c : Int) (hx : U x) (hy : U y) (hc : 0 ≤ c) (hc' : c ≤ 1) : subHi x y c = if x < y + c then 1 else 0 := by
 unfold U at *
 unfold subHi
 by_cases h : x < y + c
 ·rw [if_pos h, if_pos (by omega)]; rfl
 ·rw [if_neg h, if_neg (by omega)]; rfl
theorem subHi_le (x y c : Int) : subHi x y c ≤ 1 := by unfold subHi; split <;> decide
theorem subHi_ge (x y c : Int) : 0 ≤ subHi x y c := by unfold subHi; split <;> decide
theorem subLo_is (x y c : Int) (hx : U x) (hy : U y) (hc : 0 ≤ c) (hc' : c ≤ 1) : subLo x y c = (x - y - c) % 18446744073709551616 := by
 unfold U at *
 unfold subLo
 omega
theorem addLo_is (x y c : Int) (hx : U x) (hy : U y) (hc : 0 ≤ c) (hc' : c ≤ 1) : addLo x y c = (x + y + c) % 18446744073709551616 := by
 unfold U at *
 unfold addLo
 omega
theorem addHi_is (x y c : Int) (hx : U x) (hy : U y) (hc : 0 ≤ c) (hc' : c ≤ 1) : addHi x y c = (x + y + c) / 18446744073709551616 := by
 unfold U at *
 unfold addHi
 omega
theorem amount_is (h l : Int) (hh : Hi h) (hl : U l) : wide_amount.f h l = some (mag (h * 18446744073709551616 + l) % 18446744073709551616, mag (h * 18446744073709551616 + l) / 18446744073709551616) := by
 unfold wide_amount.f
 by_cases c : h ≥ 0
 ·unfold Hi U at *
  rw [if_pos c, mag_pos (by omega), wrap_u64]
  exact pair2 (by omega) (by omega)
 ·have z : U 0 := by unfold U; omega
  have hw : U (h % 18446744073709551616) := by unfold U; omega
  rw [if_neg c, if_pos (subHi_le _ _ _), wrap_u64, subLo_is _ _ _ z hl (by omega) (by omega), subLo_is _ _ _ z hw (subHi_ge _ _ _) (subHi_le _ _ _), subHi_is _ _ _ z hl (by omega) (by omega)]
  unfold Hi U at *
  rw [mag_neg (by omega)]
  by_cases d : l = 0
  ·rw [if_neg (by omega)]
   exact pair2 (by omega) (by omega)
  ·rw [if_pos (by omega)]
   exact pair2 (by omega) (by omega)
def wsigned (M : Int) (b : Bool) : Int × Int × Int :=
 if M > 170141183460469231731687303715884105728 ∨ M = 170141183460469231731687303715884105728 ∧ b = false then (0, 0, 10) else ((if b = true then -M else M) / 18446744073709551616, (if b = true then -M else M) % 18446744073709551616, 0)
theorem signed_at (k : Nat) (l h : Int) (b : Bool) (hl : U l) (hh : U h) : wide_signed.f (k + 1) l h b = some (wsigned (h * 18446744073709551616 + l) b) := by
 have z : U 0 := by unfold U; omega
 unfold wide_signed.f wsigned
 simp only [wide_signed.j0]
 rw [if_pos (subHi_le _ _ _), subLo_is _ _ _ z hl (by omega) (by omega), subLo_is _ _ _ z hh (subHi_ge _ _ _) (subHi_le _ _ _), subHi_is _ _ _ z hl (by omega) (by omega)]
 unfold U at *
 cases b <;> simp only [Bool.false_eq_true, if_false, if_true, reduceCtorEq, and_false, and_true, or_false, wrap64, decide_eq_true_eq]
 all_goals
  repeat' split
  all_goals first | rfl | (exfalso; omega) | exact trip (by omega) (by omega) rfl
def wenc (x : Int) : Int × Int × Int := if -170141183460469231731687303715884105728 ≤ x ∧ x < 170141183460469231731687303715884105728 then (x / 18446744073709551616, x % 18446744073709551616, 0) else (0, 0, 10)
theorem wenc_in {x : Int} (h : -170141183460469231731687303715884105728 ≤ x ∧ x < 170141183460469231731687303715884105728) : wenc x = (x / 18446744073709551616, x % 18446744073709551616, 0) := if_pos h
theorem wenc_out {x : Int} (h : ¬ (-170141183460469231731687303715884105728 ≤ x ∧ x < 170141183460469231731687303715884105728)) : wenc x = (0, 0, 10) := if_neg h
theorem wsigned_enc (M : Int) (b : Bool) (hM : 0 ≤ M) : wsigned M b = wenc (if b = true then -M else M) := by
 unfold wsigned wenc
 cases b <;> simp only [Bool.false_eq_true, if_false, if_true, reduceCtorEq, and_false, and_true, or_false]
 ·by_cases c : M > 170141183460469231731687303715884105728 ∨ M = 170141183460469231731687303715884105728
  ·rw [if_pos c, if_neg (by omega)]
  ·rw [if_neg c, if_pos (by omega)]
 ·by_cases c : M > 170141183460469231731687303715884105728
  ·rw [if_pos c, if_neg (by omega)]
  ·rw [if_neg c, if_pos (by omega)]
def sgv (b : Bool) (n : Nat) : Int := if b = true then -(n : Int) else (n : Int)
theorem wenc_great (b : Bool) (n : Nat) (h : 170141183460469231731687303715884105728 < (n : Int)) : wenc (sgv b n) = (0, 0, 10) := by
 rw [wenc_out]
 unfold sgv
 split <;> omega
theorem foldv (l : List UInt8) : ∀ n : Nat, l.foldl (fun n c => n * 10 + (c.toNat - 48)) n = n * 10 ^ l.length + decVal l := by
 induction l with
 | nil => intro n; simp [decVal]
 | cons c t ih =>
  intro n
  have e : decVal (c :: t) = (c.toNat - 48) * 10 ^ t.length + decVal t := by
   unfold decVal
   rw [List.foldl_cons, ih, Nat.zero_mul, Nat.zero_add]
   rfl
  rw [List.foldl_cons, ih, e, List.length_cons, Nat.pow_succ, Nat.add_mul, Nat.mul_assoc, Nat.mul_comm 10]
  omega
theorem decVal_app (a b : List UInt8) : decVal (a ++ b) = decVal a * 10 ^ b.length + decVal b := by
 rw [← foldv b (decVal a)]
 unfold decVal
 rw [List.foldl_append]
theorem decVal_zeros (n : Nat) : decVal (List.replicate n 48) = 0 := by
 induction n with
 | zero => rfl
 | succ n ih =>
  rw [List.replicate_succ', decVal_snoc, ih]
  rfl
def valOf (W F : List UInt8) : Nat := decVal (W ++ F) * 10 ^ (6 - F.length)
theorem valOf_zeros (W F : List UInt8) : decVal ((W ++ F) ++ List.replicate (6 - F.length) 48) = valOf W F := by
 rw [decVal_app, decVal_zeros, List.length_replicate]
 rfl
def WOk (N : Nat) (r : Int × Int × Bool) : Prop := r.2.2 = decide (340282366920938463463374607431768211456 ≤ (N : Int)) ∧ ((N : Int) < 340282366920938463463374607431768211456 → r.1 = (N : Int) / 18446744073709551616 ∧ r.2.1 = (N : Int) % 18446744073709551616)
theorem mod_in (M : Int) (h : 0 ≤ M) (h' : M < 340282366920938463463374607431768211456) : M % 340282366920938463463374607431768211456 = M := Int.emod_eq_of_lt h h'
theorem RWorth_from (A : List UInt8) (hd : ∀ c ∈ A, 48 ≤ c.toNat ∧ c.toNat ≤ 57) (hs : A.length ≤ 2000000) (d : Nat) : ∀ i : Nat, i + d = A.length → (decVal (A.take i) : Int) < 340282366920938463463374607431768211456 →
  ∃ r, WOk (decVal A) r ∧ Ev (fun k => tumblerref02_Worth.l1 k (bs A) (i : Int) ((decVal (A.take i) : Int) / 18446744073709551616) ((decVal (A.take i) : Int) % 18446744073709551616) false) r := by
 induction d with
 | zero =>
  intro i hi hm
  have e : A.take i = A := List.take_of_length_le (by omega)
  rw [e] at hm ⊢
  refine ⟨((decVal A : Int) / 18446744073709551616, (decVal A : Int) % 18446744073709551616, false), ⟨(decide_eq_false (by omega)).symm, fun _ => ⟨rfl, rfl⟩⟩, ⟨2, fun k hk => ?_⟩⟩
  obtain ⟨k, rfl⟩ : ∃ j, k = j + 2 := ⟨k - 2, by omega⟩
  simp only [tumblerref02_Worth.l1, tumblerref02_Worth.j2]
  rw [if_neg (by rw [bs_size]; omega)]
  simp
 | succ d ih =>
  intro i hi hm
  have hlt : i < A.length := by omega
  have dg := hd _ (List.getElem_mem hlt)
  have ts := decVal_take_succ A i hlt
  have le := decVal_take_le A (i + 1)
  have ec : ((A[i].toNat : Int) - 48) % 256 = ((A[i].toNat - 48 : Nat) : Int) := by omega
  have e1 := wrap_suc i (by omega)
  have u0 := U_mod (decVal (A.take i) : Int)
  have u1 := U_div (decVal (A.take i) : Int) (by omega) hm
  have ti := Times_is _ _ 10 u1 u0 (by unfold U; omega)
  rw [U_join] at ti
  have pl := Plus_is ((decVal (A.take i) : Int) * 10) ((A[i].toNat - 48 : Nat) : Int) (by omega) (by omega)
  rw [show ((A[i].toNat - 48 : Nat) : Int) % 340282366920938463463374607431768211456 / 18446744073709551616 = 0 by omega, show ((A[i].toNat - 48 : Nat) : Int) % 18446744073709551616 = ((A[i].toNat - 48 : Nat) : Int) by omega,
   decide_eq_false (show ¬ 340282366920938463463374607431768211456 ≤ ((A[i].toNat - 48 : Nat) : Int) by omega), show (decVal (A.take i) : Int) * 10 + ((A[i].toNat - 48 : Nat) : Int) = (decVal (A.take (i + 1)) : Int) by rw [ts]; omega] at pl
  obtain ⟨K, hK⟩ := ti
  have st : ∀ k, K ≤ k → tumblerref02_Worth.l1 (k + 2) (bs A) (i : Int) ((decVal (A.take i) : Int) / 18446744073709551616) ((decVal (A.take i) : Int) % 18446744073709551616) false =
    tumblerref02_Worth.l1 k (bs A) ((i + 1 : Nat) : Int) ((decVal (A.take (i + 1)) : Int) % 340282366920938463463374607431768211456 / 18446744073709551616) ((decVal (A.take (i + 1)) : Int) % 18446744073709551616) (decide (340282366920938463463374607431768211456 ≤ (decVal (A.take (i + 1)) : Int))) := by
   intro k hk
   have e := hK k hk
   simp only at e
   simp only [tumblerref02_Worth.l1, tumblerref02_Worth.j2]
   rw [if_pos (show (i : Int) < ((bs A).size : Int) by rw [bs_size]; omega), if_pos (by rfl), e]
   simp only [Option.bind_some]
   rw [if_pos (show (0 : Int) ≤ (i : Int) by omega), if_pos (show (i : Int) < ((bs A).size : Int) by rw [bs_size]; omega), bt_bs A i hlt, ec, pl, e1]
   rfl
  by_cases ov : 340282366920938463463374607431768211456 ≤ (decVal (A.take (i + 1)) : Int)
  ·rw [decide_eq_true ov] at st
   refine ⟨((decVal (A.take (i + 1)) : Int) % 340282366920938463463374607431768211456 / 18446744073709551616, (decVal (A.take (i + 1)) : Int) % 18446744073709551616, true), ⟨(decide_eq_true (by omega)).symm, fun h => by omega⟩, ⟨K + 4, fun k hk => ?_⟩⟩
   obtain ⟨k, rfl⟩ : ∃ j, k = j + 4 := ⟨k - 4, by omega⟩
   simp only
   rw [st (k + 2) (by omega)]
   simp only [tumblerref02_Worth.l1, tumblerref02_Worth.j2]
   split <;> simp
  ·obtain ⟨r, h1, K2, h2⟩ := ih (i + 1) (by omega) (by omega)
   refine ⟨r, h1, ⟨K + K2 + 2, fun k hk => ?_⟩⟩
   obtain ⟨k, rfl⟩ : ∃ j, k = j + 2 := ⟨k - 2, by omega⟩
   have e := h2 k (by omega)
   simp only at e ⊢
   rw [st k (by omega), decide_eq_false ov, mod_in _ (by omega) (by omega)]
   exact e
theorem RWorth_zeros (R : Int × Int × Bool) (d : Nat) : ∀ (i : Nat) (A : List UInt8), i + d = 6 → A.length + d ≤ 1500000 → Ev (fun k => tumblerref02_Worth.l1 k (bs (A ++ List.replicate d 48)) 0 0 0 false) R → Ev (fun k => tumblerref02_Worth.l0 k (bs A) (i : Int) 0 0 false) R := by
 induction d with
 | zero =>
  intro i A hi hA h
  rw [List.replicate_zero, List.append_nil] at h
  refine Ev_to h (fun k => ?_)
  simp only [tumblerref02_Worth.l0]
  rw [if_neg (by omega)]
 | succ d ih =>
  intro i A hi hA h
  have e1 := wrap_suc i (by omega)
  rw [List.replicate_succ, ← List.singleton_append, ← List.append_assoc] at h
  refine Ev_to (ih (i + 1) (A ++ [48]) (by omega) (by simp; omega) h) (fun k => ?_)
  simp only [tumblerref02_Worth.l0]
  rw [if_pos (by omega), if_pos (by rw [bs_size]; omega), e1, show (⟨#[48]⟩ : ByteArray) = bs [48] from rfl, bs_app]
theorem zeros_dig (n : Nat) : ∀ c ∈ List.replicate n (48 : UInt8), 48 ≤ c.toNat ∧ c.toNat ≤ 57 := by
 intro c hc
 rw [List.eq_of_mem_replicate hc]
 decide
theorem app_dig {a b : List UInt8} (ha : ∀ c ∈ a, 48 ≤ c.toNat ∧ c.toNat ≤ 57) (hb : ∀ c ∈ b, 48 ≤ c.toNat ∧ c.toNat ≤ 57) : ∀ c ∈ a ++ b, 48 ≤ c.toNat ∧ c.toNat ≤ 57 := by
 intro c hc
 rcases List.mem_append.1 hc with h | h
 ·exact ha c h
 ·exact hb c h
theorem RWorth_is (W F : List UInt8) (b : Bool) (hW : ∀ c ∈ W, 48 ≤ c.toNat ∧ c.toNat ≤ 57) (hF : ∀ c ∈ F, 48 ≤ c.toNat ∧ c.toNat ≤ 57) (hs : W.length ≤ 1048576) (hf : F.length ≤ 6) :
  ∃ r, WOk (valOf W F) r ∧ Ev (fun k => tumblerref02_Worth.f k b (bs W) (bs F)) r := by
 obtain ⟨r, h1, h2⟩ := RWorth_from ((W ++ F) ++ List.replicate (6 - F.length) 48) (app_dig (app_dig hW hF) (zeros_dig _)) (by simp; omega) _ 0 (Nat.zero_add _) (by simp [decVal])
 rw [valOf_zeros] at h1
 rw [List.take_zero, show decVal [] = 0 from rfl] at h2
 refine ⟨r, h1, ?_⟩
 have e : ∀ k, tumblerref02_Worth.f k b (bs W) (bs F) = tumblerref02_Worth.l0 k (bs (W ++ F)) (F.length : Int) 0 0 false := by
  intro k
  unfold tumblerref02_Worth.f
  rw [if_pos (by rw [bs_size, bs_size]; omega), bs_app, bs_size]
 simp only [e]
 exact RWorth_zeros r (6 - F.length) F.length (W ++ F) (by omega) (by simp; omega) h2
def Taken (o : Option (Bool × List UInt8 × List UInt8)) (r : Int × Int × Bool × Bool × Int) : Prop :=
 match o with
 | none => r.2.2.2.2 = 20
 | some p => if 6 < p.2.2.length then r.2.2.2.2 = 21 else WOk (valOf p.2.1 p.2.2) (r.1, r.2.1, r.2.2.1) ∧ r.2.2.2.1 = p.1 ∧ r.2.2.2.2 = 0
theorem decT_parts {t W F : List UInt8} (h : decT t = some (W, F)) : (∀ c ∈ W, 48 ≤ c.toNat ∧ c.toNat ≤ 57) ∧ (∀ c ∈ F, 48 ≤ c.toNat ∧ c.toNat ≤ 57) ∧ W ≠ [] ∧ t.length = W.length + (if F = [] then 0 else F.length + 1) := by
 have td := congrArg List.length (take_drop t)
 rw [List.length_append] at td
 unfold decT at h
 split at h
 ·cases h
 ·rename_i w0
  split at h
  ·rename_i hR
   injection h with h; injection h with h1 h2
   subst h1 h2
   rw [hR] at td
   exact ⟨take_dig t, by intro c hc; simp at hc, w0, by rw [if_pos rfl, ← td]; rfl⟩
  ·rename_i c r hR
   rw [hR, List.length_cons] at td
   split at h
   ·split at h
    ·cases h
    ·rename_i f0
     split at h
     ·rename_i r0
      injection h with h; injection h with h1 h2
      subst h1 h2
      have rd := congrArg List.length (take_drop r)
      rw [List.length_append, r0, List.length_nil] at rd
      exact ⟨take_dig t, take_dig r, w0, by rw [if_neg f0]; omega⟩
     ·cases h
   ·cases h
theorem taken_is (l : List UInt8) (hs : l.length ≤ 1048576) : ∃ r, Taken (decOf l) r ∧ Ev (fun k => tumblerref02_taken.f k (bs l)) r := by
 obtain ⟨q, h1, h2⟩ := Take_is l hs
 have hcl := cutm_len l
 unfold decOf
 simp only [tumblerref02_taken.f]
 cases hT : decT (cutm l).1 with
 | none =>
  rw [hT] at h1
  have h1 : q.2.2.2 = false := h1
  exact ⟨(0, 0, false, false, 20), rfl, Ev.bind h2 ⟨0, fun k _ => by simp only [h1, Bool.false_eq_true, if_false]⟩⟩
 | some p =>
  obtain ⟨W, F⟩ := p
  rw [hT] at h1
  have h1 : q = ((cutm l).2, bs W, bs F, true) := h1
  subst h1
  obtain ⟨dW, dF, w0, len⟩ := decT_parts hT
  by_cases c6 : 6 < F.length
  ·refine ⟨(0, 0, false, false, 21), ?_, Ev.bind h2 ⟨0, fun k _ => ?_⟩⟩
   ·show (if 6 < F.length then _ else _)
    rw [if_pos c6]
   ·simp only [if_true]
    rw [if_pos (by rw [bs_size]; omega)]
  ·obtain ⟨r, h3, h4⟩ := RWorth_is W F (cutm l).2 dW dF (by omega) (by omega)
   refine ⟨(r.1, r.2.1, r.2.2, (cutm l).2, 0), ?_, Ev.bind h2 ?_⟩
   ·show (if 6 < F.length then _ else _)
    rw [if_neg c6]
    exact ⟨h3, rfl, rfl⟩
   ·have e : ¬ ((bs F).size : Int) > 6 := by rw [bs_size]; omega
    simp only [if_true, e, if_false]
    exact Ev.bind h4 (Ev.now _)
theorem Signed_over (h l : Int) (b : Bool) : Ev (fun k => tumblerref02_Signed.f k h l true b) (0, 0, false) := ⟨1, fun k hk => by
 obtain ⟨k, rfl⟩ : ∃ m, k = m + 1 := ⟨k - 1, by omega⟩
 simp [tumblerref02_Signed.f, tumblerref02_Signed.j0]⟩
def readW (l : List UInt8) : Int × Int × Int :=
 match decOf l with
 | none => (0, 0, 20)
 | some p => if 6 < p.2.2.length then (0, 0, 21) else wenc (sgv p.1 (valOf p.2.1 p.2.2))
def parseV (l : List UInt8) : Int × Int :=
 match decOf l with
 | none => (0, 20)
 | some p => if 6 < p.2.2.length then (0, 21) else if valOf p.2.1 p.2.2 ≤ 1000000000000000 then (sgv p.1 (valOf p.2.1 p.2.2), 0) else (0, 22)
theorem signed_enc (N : Nat) (b : Bool) : (if (signedOf N b).2.2 = true then some ((signedOf N b).1, (signedOf N b).2.1, (0 : Int)) else some (0, 0, 10)) = some (wenc (sgv b N)) := by
 unfold signedOf sgv
 cases b
 ·by_cases c : (N : Int) > 170141183460469231731687303715884105728 ∨ (N : Int) = 170141183460469231731687303715884105728 ∧ false = false
  ·rw [if_pos c, wenc_out (by simp at c ⊢; omega)]; rfl
  ·rw [if_neg c, wenc_in (by simp at c ⊢; omega)]; rfl
 ·by_cases c : (N : Int) > 170141183460469231731687303715884105728 ∨ (N : Int) = 170141183460469231731687303715884105728 ∧ true = false
  ·rw [if_pos c, wenc_out (by simp at c ⊢; omega)]; rfl
  ·rw [if_neg c, wenc_in (by simp at c ⊢; omega)]; rfl
theorem RRead_is (l : List UInt8) (hs : l.length ≤ 1048576) : Ev (fun k => tumblerref02_Read.f k (bs l)) (readW l) := by
 obtain ⟨r, h1, h2⟩ := taken_is l hs
 obtain ⟨r1, r2, r3, r4, r5⟩ := r
 simp only [tumblerref02_Read.f]
 refine Ev.bind h2 ?_
 unfold readW
 unfold Taken at h1
 cases hd : decOf l with
 | none =>
  rw [hd] at h1
  have h1 : r5 = 20 := h1
  subst h1
  exact ⟨0, fun k _ => rfl⟩
 | some p =>
  rw [hd] at h1
  simp only at h1 ⊢
  by_cases c6 : 6 < p.2.2.length
  ·rw [if_pos c6] at h1 ⊢
   subst h1
   exact ⟨0, fun k _ => rfl⟩
  ·rw [if_neg c6] at h1 ⊢
   obtain ⟨⟨g1, g2⟩, rfl, rfl⟩ := h1
   simp only at g1 g2
   generalize valOf p.2.1 p.2.2 = N at *
   by_cases ov : 340282366920938463463374607431768211456 ≤ (N : Int)
   ·rw [decide_eq_true ov] at g1
    subst g1
    rw [wenc_great p.1 N (by omega)]
    simp only [if_true]
    exact Ev.bind (Signed_over r1 r2 p.1) ⟨0, fun k _ => rfl⟩
   ·rw [decide_eq_false ov] at g1
    obtain ⟨rfl, rfl⟩ := g2 (by omega)
    subst g1
    have sg := Signed_is ((N : Int) / 18446744073709551616) ((N : Int) % 18446744073709551616) p.1 (U_div _ (by omega) (by omega)) (U_mod _)
    rw [U_join] at sg
    simp only [if_true]
    exact Ev.bind sg ⟨0, fun k _ => signed_enc N p.1⟩
def cmp (x y : Int) : Int := if x < y then -1 else if x > y then 1 else 0
theorem cmp_lt {x y : Int} (h : x < y) : cmp x y = -1 := if_pos h
theorem cmp_gt {x y : Int} (h : y < x) : cmp x y = 1 := by unfold cmp; rw [if_neg (by omega), if_pos h]
theorem cmp_eq {x y : Int} (h : x = y) : cmp x y = 0 := by unfold cmp; rw [if_neg (by omega), if_neg (by omega)]
theorem cmp_cases (x y : Int) : (x < y ∧ cmp x y = -1) ∨ (x = y ∧ cmp x y = 0) ∨ (y < x ∧ cmp x y = 1) := by
 rcases Int.lt_trichotomy x y with h | h | h
 ·exact .inl ⟨h, cmp_lt h⟩
 ·exact .inr (.inl ⟨h, cmp_eq h⟩)
 ·exact .inr (.inr ⟨h, cmp_gt h⟩)
theorem WAdd_is (h l h' l' : Int) (hh : Hi h) (hl : U l) (hh' : Hi h') (hl' : U l') :
  wide_Add.f h l h' l' = some (wenc ((h * 18446744073709551616 + l) + (h' * 18446744073709551616 + l'))) := by
 unfold wide_Add.f
 have u := U_mod h
 have u' := U_mod h'
 rw [wrap_u64, wrap_u64, addHi_is _ _ _ hl hl' (by omega) (by omega), addLo_is _ _ _ hl hl' (by omega) (by omega)]
 unfold Hi U at *
 rw [if_pos (by omega), addLo_is _ _ _ u u' (by omega) (by omega)]
 have e : wrap64 ((h % 18446744073709551616 + h' % 18446744073709551616 + (l + l' + 0) / 18446744073709551616) % 18446744073709551616) = (h + h' + (l + l') / 18446744073709551616 + 9223372036854775808) % 18446744073709551616 - 9223372036854775808 := by
  unfold wrap64; omega
 rw [e]; clear e
 unfold wenc
 by_cases c : h < 0 <;> by_cases d : h' < 0 <;> simp only [c, d, decide_true, decide_false, beq_self_eq_true, if_true, show (true == false) = false from rfl, show (false == true) = false from rfl, Bool.false_eq_true, if_false, bne_iff_ne, ne_eq]
 ·by_cases g : (h + h' + (l + l') / 18446744073709551616 + 9223372036854775808) % 18446744073709551616 - 9223372036854775808 < 0
  ·rw [if_neg (by simp [g]), if_pos (by omega)]; exact trip (by omega) (by omega) rfl
  ·rw [if_pos (by simp [g]), if_neg (by omega)]
 ·rw [if_pos (by omega)]; exact trip (by omega) (by omega) rfl
 ·rw [if_pos (by omega)]; exact trip (by omega) (by omega) rfl
 ·by_cases g : (h + h' + (l + l') / 18446744073709551616 + 9223372036854775808) % 18446744073709551616 - 9223372036854775808 < 0
  ·rw [if_pos (by simp [g]), if_neg (by omega)]
  ·rw [if_neg (by simp [g]), if_pos (by omega)]; exact trip (by omega) (by omega) rfl
theorem WSub_is (h l h' l' : Int) (hh : Hi h) (hl : U l) (hh' : Hi h') (hl' : U l') :
  wide_Sub.f h l h' l' = some (wenc ((h * 18446744073709551616 + l) - (h' * 18446744073709551616 + l'))) := by
 unfold wide_Sub.f
 have u := U_mod h
 have u' := U_mod h'
 rw [wrap_u64, wrap_u64, if_pos (subHi_le _ _ _), subLo_is _ _ _ u u' (subHi_ge _ _ _) (subHi_le _ _ _), subLo_is _ _ _ hl hl' (by omega) (by omega), subHi_is _ _ _ hl hl' (by omega) (by omega)]
 unfold Hi U at *
 have e : wrap64 ((h % 18446744073709551616 - h' % 18446744073709551616 - if l < l' + 0 then 1 else 0) % 18446744073709551616) = (h - h' + (l - l') / 18446744073709551616 + 9223372036854775808) % 18446744073709551616 - 9223372036854775808 := by
  unfold wrap64; split <;> omega
 rw [e]; clear e
 unfold wenc
 by_cases c : h < 0 <;> by_cases d : h' < 0 <;> simp only [c, d, decide_true, decide_false, bne_self_eq_false, if_true, Bool.true_bne, Bool.false_bne, Bool.not_false, Bool.false_eq_true, if_false, bne_iff_ne, ne_eq]
 ·rw [if_pos (by omega)]; exact trip (by omega) (by omega) rfl
 ·by_cases g : (h - h' + (l - l') / 18446744073709551616 + 9223372036854775808) % 18446744073709551616 - 9223372036854775808 < 0
  ·rw [if_neg (by simp [g]), if_pos (by omega)]; exact trip (by omega) (by omega) rfl
  ·rw [if_pos (by simp [g]), if_neg (by omega)]
 ·by_cases g : (h - h' + (l - l') / 18446744073709551616 + 9223372036854775808) % 18446744073709551616 - 9223372036854775808 < 0
  ·rw [if_pos (by simp [g]), if_neg (by omega)]
  ·rw [if_neg (by simp [g]), if_pos (by omega)]; exact trip (by omega) (by omega) rfl
 ·rw [if_pos (by omega)]; exact trip (by omega) (by omega) rfl
theorem WCmp_is (h l h' l' : Int) (hl : U l) (hl' : U l') : wide_Cmp.f h l h' l' = some (cmp (h * 18446744073709551616 + l) (h' * 18446744073709551616 + l')) := by
 unfold wide_Cmp.f cmp
 unfold U at *
 simp only [Bool.and_eq_true, beq_iff_eq]
 by_cases c : h = h' ∧ l = l'
 ·rw [if_pos c, if_neg (by omega), if_neg (by omega)]
 ·rw [if_neg c]
  by_cases d : h < h'
  ·rw [if_pos d, if_pos (by omega)]
  ·rw [if_neg d]
   by_cases e : h = h'
   ·rw [if_pos e]
    by_cases f : l < l'
    ·rw [if_pos f, if_pos (by omega)]
    ·rw [if_neg f, if_neg (by omega), if_pos (by omega)]
   ·rw [if_neg e, if_neg (by omega), if_pos (by omega)]
theorem WSign_is (h l : Int) (hl : U l) : wide_Sign.f h l = some (cmp (h * 18446744073709551616 + l) 0) := by
 unfold wide_Sign.f
 rw [WCmp_is h l 0 0 hl (by unfold U; omega)]; rfl
theorem WNeg_is (h l : Int) (hh : Hi h) (hl : U l) : wide_Neg.f h l = some (wenc (-(h * 18446744073709551616 + l))) := by
 unfold wide_Neg.f
 rw [WSub_is 0 0 h l (by unfold Hi; omega) (by unfold U; omega) hh hl, show (0 * 18446744073709551616 + 0 - (h * 18446744073709551616 + l) : Int) = -(h * 18446744073709551616 + l) by omega]; rfl
theorem Mul64_is (x y : Int) (hx : U x) (hy : U y) : bits_Mul64.f x y = some (x * y / 18446744073709551616, x * y % 18446744073709551616) := by
 unfold U at *
 unfold bits_Mul64.f
 rw [and_low x (by omega) (by omega), and_low y (by omega) (by omega)]
 generalize hx1 : x / 4294967296 = x1
 generalize hx0 : x % 4294967296 = x0
 generalize hy1 : y / 4294967296 = y1
 generalize hy0 : y % 4294967296 = y0
 have b1 : 0 ≤ x1 ∧ x1 ≤ 4294967295 := by omega
 have b0 : 0 ≤ x0 ∧ x0 ≤ 4294967295 := by omega
 have c1 : 0 ≤ y1 ∧ y1 ≤ 4294967295 := by omega
 have c0 : 0 ≤ y0 ∧ y0 ≤ 4294967295 := by omega
 have lim : ∀ a b : Int, 0 ≤ a ∧ a ≤ 4294967295 → 0 ≤ b ∧ b ≤ 4294967295 → 0 ≤ a * b ∧ a * b ≤ 18446744065119617025 := fun a b ha hb => by
  have h1 : a * b ≤ 4294967295 * 4294967295 := Int.mul_le_mul ha.2 hb.2 hb.1 (by omega)
  exact ⟨Int.mul_nonneg ha.1 hb.1, by omega⟩
 have p00 := lim x0 y0 b0 c0
 have p10 := lim x1 y0 b1 c0
 have p01 := lim x0 y1 b0 c1
 have p11 := lim x1 y1 b1 c1
 have hxy : x * y = x1 * y1 * 18446744073709551616 + (x1 * y0 + x0 * y1) * 4294967296 + x0 * y0 := by
  have e1 : x = x1 * 4294967296 + x0 := by omega
  have e2 : y = y1 * 4294967296 + y0 := by omega
  rw [e1, e2]; grind
 rw [hxy]
 generalize x0 * y0 = a at *
 generalize x1 * y0 = b at *
 generalize x0 * y1 = c at *
 generalize x1 * y1 = d at *
 have ea : IntKind.u64.wrap a = a := by rw [wrap_u64]; omega
 have eb : IntKind.u64.wrap b = b := by rw [wrap_u64]; omega
 have ec : IntKind.u64.wrap c = c := by rw [wrap_u64]; omega
 have ed : IntKind.u64.wrap d = d := by rw [wrap_u64]; omega
 have et : IntKind.u64.wrap (b + a / 4294967296) = b + a / 4294967296 := by rw [wrap_u64]; omega
 rw [ea, eb, ec, ed, et, and_low _ (by omega) (by omega)]
 have ew : IntKind.u64.wrap ((b + a / 4294967296) % 4294967296 + c) = (b + a / 4294967296) % 4294967296 + c := by rw [wrap_u64]; omega
 rw [ew, wrap_u64, wrap_u64, wrap_u64]
 exact pair2 (by omega) rfl
theorem Mul_half (k : Nat) (M N : Int) (h0 h1 g0 g1 : Int) (s : Bool) (R : Int × Int × Int) (hM : 0 ≤ M) (hM' : M < 340282366920938463463374607431768211456) (hN : 0 ≤ N) (hN' : N < 18446744073709551616) (hs : (decide (h0 < 0) != decide (g0 < 0)) = s)
  (hR : R = wenc (if s = true then -(M * N) else M * N)) (hK : ∀ l h, U l → U h → wide_signed.f k l h s = some (wsigned (h * 18446744073709551616 + l) s)) :
  wide_Mul.j1 (k + 1) h0 h1 g0 g1 (M % 18446744073709551616) (M / 18446744073709551616) (N % 18446744073709551616) (N / 18446744073709551616) = some R := by
 simp only [wide_Mul.j1]
 have u0 := U_mod M
 have u1 := U_div M hM hM'
 have v0 := U_mod N
 rw [Mul64_is _ _ u0 v0, Mul64_is _ _ u1 v0, hs, hR]
 have hp : M * N = (M / 18446744073709551616 * (N % 18446744073709551616)) * 18446744073709551616 + M % 18446744073709551616 * (N % 18446744073709551616) := by
  have e1 : N % 18446744073709551616 = N := by omega
  have e2 : M = M / 18446744073709551616 * 18446744073709551616 + M % 18446744073709551616 := by omega
  rw [e1]
  conv => lhs; rw [e2]
  rw [Int.add_mul, Int.mul_right_comm]
 have p1 : 0 ≤ M / 18446744073709551616 * (N % 18446744073709551616) := Int.mul_nonneg u1.1 v0.1
 have p0 : 0 ≤ M % 18446744073709551616 * (N % 18446744073709551616) := Int.mul_nonneg u0.1 v0.1
 have q0 : M % 18446744073709551616 * (N % 18446744073709551616) ≤ 18446744073709551615 * 18446744073709551615 := Int.mul_le_mul (by omega) (by omega) v0.1 (by omega)
 rw [hp]
 clear hp hR u0 u1 v0
 generalize M / 18446744073709551616 * (N % 18446744073709551616) = a at *
 generalize M % 18446744073709551616 * (N % 18446744073709551616) = b at *
 simp only [Option.bind_some]
 have ub : U (b / 18446744073709551616) := by unfold U; omega
 by_cases c : a / 18446744073709551616 > 0
 ·rw [if_pos c, wenc_out]
  cases s <;> simp only [Bool.false_eq_true, if_false, if_true] <;> omega
 ·rw [if_neg c, addHi_is _ _ _ ub (U_mod _) (by omega) (by omega), addLo_is _ _ _ ub (U_mod _) (by omega) (by omega)]
  by_cases d : (b / 18446744073709551616 + a % 18446744073709551616 + 0) / 18446744073709551616 > 0
  ·rw [if_pos d, wenc_out]
   cases s <;> simp only [Bool.false_eq_true, if_false, if_true] <;> omega
  ·rw [if_neg d, hK _ _ (U_mod _) (U_mod _)]
   simp only [Option.bind_some]
   have e : (b / 18446744073709551616 + a % 18446744073709551616 + 0) % 18446744073709551616 * 18446744073709551616 + b % 18446744073709551616 = a * 18446744073709551616 + b := by omega
   rw [e, wsigned_enc _ _ (by omega)]
theorem signed_all (s : Bool) : ∃ K, ∀ k, K ≤ k → ∀ l h, U l → U h → wide_signed.f k l h s = some (wsigned (h * 18446744073709551616 + l) s) :=
 ⟨1, fun k hk l h hl hh => by
  obtain ⟨k, rfl⟩ : ∃ j, k = j + 1 := ⟨k - 1, by omega⟩
  exact signed_at k l h s hl hh⟩
theorem Mul_is (h l h' l' : Int) (hh : Hi h) (hl : U l) (hh' : Hi h') (hl' : U l') :
  Ev (fun k => wide_Mul.f k h l h' l') (wenc ((h * 18446744073709551616 + l) * (h' * 18446744073709551616 + l'))) := by
 obtain ⟨K, hK⟩ := signed_all (decide (h < 0) != decide (h' < 0))
 refine ⟨K + 2, fun k hk => ?_⟩
 obtain ⟨k, rfl⟩ : ∃ j, k = j + 2 := ⟨k - 2, by omega⟩
 have hv := sign_mul (h * 18446744073709551616 + l) (h' * 18446744073709551616 + l')
 rw [← Hi_neg h l hl, ← Hi_neg h' l' hl'] at hv
 simp only [wide_Mul.f]
 rw [amount_is h l hh hl, amount_is h' l' hh' hl']
 simp only [Option.bind_some]
 have m1 := mag_lt h l hh hl
 have m2 := mag_lt h' l' hh' hl'
 have n1 := mag_nonneg (h * 18446744073709551616 + l)
 have n2 := mag_nonneg (h' * 18446744073709551616 + l')
 rw [← hv]
 generalize mag (h * 18446744073709551616 + l) = M at *
 generalize mag (h' * 18446744073709551616 + l') = N at *
 clear hv
 have hKk := hK k (by omega)
 generalize hs : (decide (h < 0) != decide (h' < 0)) = s at *
 by_cases c : M / 18446744073709551616 > 0
 ·rw [if_pos c]
  by_cases d : N / 18446744073709551616 > 0
  ·rw [decide_eq_true d]
   simp only [wide_Mul.j0, if_true]
   have : 18446744073709551616 * 18446744073709551616 ≤ M * N := Int.mul_le_mul (by omega) (by omega) (by omega) (by omega)
   rw [wenc_out]
   cases s <;> simp only [Bool.false_eq_true, if_false, if_true] <;> omega
  ·rw [decide_eq_false d]
   simp only [wide_Mul.j0, Bool.false_eq_true, if_false]
   rw [if_neg d]
   exact Mul_half k M N h l h' l' s _ (by omega) (by omega) (by omega) (by omega) hs rfl hKk
 ·rw [if_neg c]
  simp only [wide_Mul.j0, Bool.false_eq_true, if_false]
  by_cases d : N / 18446744073709551616 > 0
  ·rw [if_pos d]
   exact Mul_half k N M h l h' l' s _ (by omega) (by omega) (by omega) (by omega) hs (by rw [Int.mul_comm N M]) hKk
  ·rw [if_neg d]
   exact Mul_half k M N h l h' l' s _ (by omega) (by omega) (by omega) (by omega) hs rfl hKk
theorem WOf_is (n : Int) (hn : Hi n) : wide_Of.f n = some (n / 18446744073709551616, n % 18446744073709551616) := by
 unfold Hi at hn
 unfold wide_Of.f
 rw [wrap_u64]
 exact pair2 (by omega) rfl
def wsmall (v : Int) : Int × Bool := if -9223372036854775808 ≤ v ∧ v ≤ 9223372036854775807 then (v, true) else (0, false)
theorem WSmall_is (h l : Int) (hh : Hi h) (hl : U l) : wide_Small.f h l = some (wsmall (h * 18446744073709551616 + l)) := by
 unfold Hi U at *
 unfold wide_Small.f wsmall
 have hw : Hi (wrap64 l) := by unfold Hi wrap64; omega
 rw [WOf_is _ hw]
 simp only [Option.bind_some, Bool.or_eq_true, Bool.not_eq_true', beq_eq_false_iff_ne, ne_eq]
 unfold wrap64
 by_cases c : -9223372036854775808 ≤ h * 18446744073709551616 + l ∧ h * 18446744073709551616 + l ≤ 9223372036854775807
 ·rw [if_pos c, if_neg (by omega)]
  exact pair2 (by omega) rfl
 ·rw [if_neg c, if_pos (by omega)]
theorem tens02 (n : Nat) (hn : n ≤ 6) : micro_tens.f n = some (10 ^ n) := by
 have : ∀ i : Fin 7, micro_tens.f (i.val : Int) = some (10 ^ i.val) := by decide
 exact this ⟨n, by omega⟩
theorem ten02 (n : Nat) (hn : n ≤ 6) : 1 ≤ (10 : Int) ^ n ∧ (10 : Int) ^ n ≤ 1000000 := by
 have : ∀ i : Fin 7, 1 ≤ (10 : Int) ^ i.val ∧ (10 : Int) ^ i.val ≤ 1000000 := by decide
 exact this ⟨n, by omega⟩
theorem wenc_mono (b : Bool) (n m : Nat) (h : n ≤ m) (ho : ¬ (-170141183460469231731687303715884105728 ≤ sgv b n ∧ sgv b n < 170141183460469231731687303715884105728)) : wenc (sgv b m) = (0, 0, 10) := by
 rw [wenc_out]
 unfold sgv at *
 cases b
 ·simp only [Bool.false_eq_true, if_false] at *; omega
 ·simp only [if_true] at *; omega
theorem sgv_mul (b : Bool) (n m : Nat) : sgv b n * (m : Int) = sgv b (n * m) := by
 unfold sgv
 cases b
 ·simp
 ·simp [Int.neg_mul]
theorem sgv_add (b : Bool) (n m : Nat) : (if b = true then sgv b n - (m : Int) else sgv b n + (m : Int)) = sgv b (n + m) := by
 unfold sgv
 cases b
 ·simp
 ·simp; omega
theorem worth_step (D : List UInt8) (b : Bool) (fr h l : Int) (i : Nat) (v : Int) (c : Nat) (k : Nat) (hlt : i < D.length) (hi : i ≤ 2000000) (hc : c ≤ 9) (hb : (bt (bs D) (i : Int) - 48) % 256 = (c : Int)) (hv : -170141183460469231731687303715884105728 ≤ v ∧ v < 170141183460469231731687303715884105728)
  (hm : wide_Mul.f k (v / 18446744073709551616) (v % 18446744073709551616) 0 10 = some (wenc (v * 10))) :
  micro_decimal_worth.l0 (k + 1) (i : Int) b (bs D) fr 0 10 (v / 18446744073709551616) (v % 18446744073709551616) =
   if -170141183460469231731687303715884105728 ≤ v * 10 ∧ v * 10 < 170141183460469231731687303715884105728 then
    (if -170141183460469231731687303715884105728 ≤ (if b = true then v * 10 - (c : Int) else v * 10 + (c : Int)) ∧ (if b = true then v * 10 - (c : Int) else v * 10 + (c : Int)) < 170141183460469231731687303715884105728 then
     micro_decimal_worth.l0 k ((i + 1 : Nat) : Int) b (bs D) fr 0 10 ((if b = true then v * 10 - (c : Int) else v * 10 + (c : Int)) / 18446744073709551616) ((if b = true then v * 10 - (c : Int) else v * 10 + (c : Int)) % 18446744073709551616) else some (0, 0, 10))
   else some (0, 0, 10) := by
 have e1 := wrap_suc i hi
 simp only [micro_decimal_worth.l0]
 rw [if_pos (show (i : Int) < ((bs D).size : Int) by rw [bs_size]; omega), hm]
 simp only [Option.bind_some]
 by_cases ov : -170141183460469231731687303715884105728 ≤ v * 10 ∧ v * 10 < 170141183460469231731687303715884105728
 ·rw [if_pos ov, wenc_in ov]
  simp only [if_true]
  rw [if_pos (show (0 : Int) ≤ (i : Int) by omega), hb, WOf_is (c : Int) (by unfold Hi; omega), e1]
  simp only [Option.bind_some]
  have hh : Hi (v * 10 / 18446744073709551616) := by unfold Hi; omega
  have hc1 : Hi ((c : Int) / 18446744073709551616) := by unfold Hi; omega
  have ws := WSub_is (v * 10 / 18446744073709551616) (v * 10 % 18446744073709551616) ((c : Int) / 18446744073709551616) ((c : Int) % 18446744073709551616) hh (U_mod _) hc1 (U_mod _)
  have wa := WAdd_is (v * 10 / 18446744073709551616) (v * 10 % 18446744073709551616) ((c : Int) / 18446744073709551616) ((c : Int) % 18446744073709551616) hh (U_mod _) hc1 (U_mod _)
  rw [U_join, U_join] at ws wa
  cases b
  ·simp only [Bool.false_eq_true, if_false]
   rw [wa]
   simp only [Option.bind_some]
   by_cases o2 : -170141183460469231731687303715884105728 ≤ v * 10 + (c : Int) ∧ v * 10 + (c : Int) < 170141183460469231731687303715884105728
   ·rw [if_pos o2, wenc_in o2]; rfl
   ·rw [if_neg o2, wenc_out o2]; rfl
  ·simp only [if_true]
   rw [ws]
   simp only [Option.bind_some]
   by_cases o2 : -170141183460469231731687303715884105728 ≤ v * 10 - (c : Int) ∧ v * 10 - (c : Int) < 170141183460469231731687303715884105728
   ·rw [if_pos o2, wenc_in o2]; rfl
   ·rw [if_neg o2, wenc_out o2]; rfl
 ·rw [if_neg ov, wenc_out ov]; rfl
theorem MWorth_from (D : List UInt8) (hd : ∀ c ∈ D, 48 ≤ c.toNat ∧ c.toNat ≤ 57) (hs : D.length ≤ 2000000) (b : Bool) (n : Nat) (hn : n ≤ 6) (d : Nat) : ∀ i : Nat, i + d = D.length →
  (-170141183460469231731687303715884105728 ≤ sgv b (decVal (D.take i)) ∧ sgv b (decVal (D.take i)) < 170141183460469231731687303715884105728) →
  Ev (fun k => micro_decimal_worth.l0 k (i : Int) b (bs D) (6 - (n : Int)) 0 10 (sgv b (decVal (D.take i)) / 18446744073709551616) (sgv b (decVal (D.take i)) % 18446744073709551616)) (wenc (sgv b (decVal D * 10 ^ n))) := by
 induction d with
 | zero =>
  intro i hi hv
  have e : D.take i = D := List.take_of_length_le (by omega)
  rw [e] at hv ⊢
  have tn := tens02 n hn
  obtain ⟨t1, t0⟩ := ten02 n hn
  have en : wrap64 (6 - (6 - (n : Int))) = (n : Int) := by unfold wrap64; omega
  have ml := Mul_is (sgv b (decVal D) / 18446744073709551616) (sgv b (decVal D) % 18446744073709551616) ((10 : Int) ^ n / 18446744073709551616) ((10 : Int) ^ n % 18446744073709551616) (by unfold Hi; omega) (U_mod _) (by unfold Hi; omega) (U_mod _)
  rw [U_join, U_join, show ((10 : Int) ^ n) = ((10 ^ n : Nat) : Int) by simp, sgv_mul] at ml
  have wo := WOf_is ((10 : Int) ^ n) (by unfold Hi; omega)
  rw [show ((10 : Int) ^ n) = ((10 ^ n : Nat) : Int) by simp] at wo tn
  obtain ⟨K, hK⟩ := ml
  refine ⟨K + 1, fun k hk => ?_⟩
  obtain ⟨k, rfl⟩ : ∃ j, k = j + 1 := ⟨k - 1, by omega⟩
  have e := hK k (by omega)
  simp only at e
  simp only [micro_decimal_worth.l0]
  rw [if_neg (by rw [bs_size]; omega), en, tn]
  simp only [Option.bind_some]
  rw [wo]
  simp only [Option.bind_some]
  rw [e]
  rfl
 | succ d ih =>
  intro i hi hv
  have hlt : i < D.length := by omega
  have dg := hd _ (List.getElem_mem hlt)
  have ts := decVal_take_succ D i hlt
  have le := decVal_take_le D (i + 1)
  have ec : (bt (bs D) (i : Int) - 48) % 256 = ((D[i].toNat - 48 : Nat) : Int) := by rw [bt_bs D i hlt]; omega
  have p1 : 1 ≤ 10 ^ n := Nat.one_le_pow _ _ (by decide)
  have le2 : decVal D ≤ decVal D * 10 ^ n := Nat.le_mul_of_pos_right _ p1
  have m10 : sgv b (decVal (D.take i)) * 10 = sgv b (decVal (D.take i) * 10) := sgv_mul b _ 10
  have ad := sgv_add b (decVal (D.take i) * 10) (D[i].toNat - 48)
  rw [← m10, ← ts] at ad
  have ml := Mul_is (sgv b (decVal (D.take i)) / 18446744073709551616) (sgv b (decVal (D.take i)) % 18446744073709551616) 0 10 (by unfold Hi; omega) (U_mod _) (by unfold Hi; omega) (by unfold U; omega)
  rw [U_join, show (0 : Int) * 18446744073709551616 + 10 = 10 from rfl] at ml
  obtain ⟨K, hK⟩ := ml
  by_cases o1 : -170141183460469231731687303715884105728 ≤ sgv b (decVal (D.take i)) * 10 ∧ sgv b (decVal (D.take i)) * 10 < 170141183460469231731687303715884105728
  ·by_cases o2 : -170141183460469231731687303715884105728 ≤ sgv b (decVal (D.take (i + 1))) ∧ sgv b (decVal (D.take (i + 1))) < 170141183460469231731687303715884105728
   ·obtain ⟨K2, hK2⟩ := ih (i + 1) (by omega) o2
    refine ⟨K + K2 + 1, fun k hk => ?_⟩
    obtain ⟨k, rfl⟩ : ∃ j, k = j + 1 := ⟨k - 1, by omega⟩
    have e := hK k (by omega)
    have e2 := hK2 k (by omega)
    simp only at e e2 ⊢
    rw [worth_step D b _ 0 10 i _ _ k hlt (by omega) (by omega) ec hv e, if_pos o1, ad, if_pos o2]
    exact e2
   ·rw [wenc_mono b _ _ (Nat.le_trans le le2) o2]
    refine ⟨K + 1, fun k hk => ?_⟩
    obtain ⟨k, rfl⟩ : ∃ j, k = j + 1 := ⟨k - 1, by omega⟩
    have e := hK k (by omega)
    simp only at e ⊢
    rw [worth_step D b _ 0 10 i _ _ k hlt (by omega) (by omega) ec hv e, if_pos o1, ad, if_neg o2]
  ·rw [wenc_mono b (decVal (D.take i) * 10) _ (Nat.le_trans (show decVal (D.take i) * 10 ≤ decVal (D.take (i + 1)) by omega) (Nat.le_trans le le2)) (by rw [← m10]; exact o1)]
   refine ⟨K + 1, fun k hk => ?_⟩
   obtain ⟨k, rfl⟩ : ∃ j, k = j + 1 := ⟨k - 1, by omega⟩
   have e := hK k (by omega)
   simp only at e ⊢
   rw [worth_step D b _ 0 10 i _ _ k hlt (by omega) (by omega) ec hv e, if_neg o1]
theorem MWorth_is (W F : List UInt8) (b : Bool) (hW : ∀ c ∈ W, 48 ≤ c.toNat ∧ c.toNat ≤ 57) (hF : ∀ c ∈ F, 48 ≤ c.toNat ∧ c.toNat ≤ 57) (hs : W.length ≤ 1048576) (hf : F.length ≤ 6) :
  Ev (fun k => micro_decimal_worth.f k b (bs (W ++ F)) (F.length : Int)) (wenc (sgv b (valOf W F))) := by
 have h := MWorth_from (W ++ F) (app_dig hW hF) (by rw [List.length_append]; omega) b (6 - F.length) (by omega) _ 0 (Nat.zero_add _) (by rw [List.take_zero]; cases b <;> decide)
 rw [List.take_zero, show sgv b (decVal []) = 0 by cases b <;> rfl, show (6 : Int) - ((6 - F.length : Nat) : Int) = (F.length : Int) by omega] at h
 simp only [micro_decimal_worth.f]
 rw [WOf_is 10 (by unfold Hi; omega)]
 exact h
theorem MRead_is (l : List UInt8) (hs : l.length ≤ 1048576) : Ev (fun k => micro_Read.f k (bs l)) (readW l) := by
 have hcl := cutm_len l
 simp only [micro_Read.f]
 rw [read_is l (by omega)]
 unfold readW decOf
 cases hT : decT (cutm l).1 with
 | none => exact ⟨0, fun k _ => rfl⟩
 | some p =>
  obtain ⟨W, F⟩ := p
  obtain ⟨dW, dF, w0, len⟩ := decT_parts hT
  simp only [Option.bind_some, Option.map_some, readR, if_true]
  by_cases c6 : 6 < F.length
  ·rw [if_pos c6]
   exact ⟨0, fun k _ => by dsimp only; rw [if_pos (show (F.length : Int) > 6 by omega)]⟩
  ·rw [if_neg c6]
   simp only [show ¬ (F.length : Int) > 6 by omega, if_false]
   exact Ev.bind (MWorth_is W F (cutm l).2 dW dF (by omega) (by omega)) (Ev.now _)
theorem MParse_is (l : List UInt8) (hs : l.length ≤ 1048576) : Ev (fun k => micro_Parse.f k (bs l)) (parseV l) := by
 have hcl := cutm_len l
 simp only [micro_Parse.f]
 rw [read_is l (by omega)]
 unfold parseV decOf
 cases hT : decT (cutm l).1 with
 | none => exact ⟨0, fun k _ => rfl⟩
 | some p =>
  obtain ⟨W, F⟩ := p
  obtain ⟨dW, dF, w0, len⟩ := decT_parts hT
  simp only [Option.bind_some, Option.map_some, readR, if_true]
  by_cases c6 : 6 < F.length
  ·rw [if_pos c6]
   exact ⟨0, fun k _ => by dsimp only; rw [if_pos (show (F.length : Int) > 6 by omega)]⟩
  ·rw [if_neg c6]
   simp only [show ¬ (F.length : Int) > 6 by omega, if_false]
   refine Ev.bind (MWorth_is W F (cutm l).2 dW dF (by omega) (by omega)) ?_
   generalize valOf W F = N
   generalize (cutm l).2 = b
   by_cases o : -170141183460469231731687303715884105728 ≤ sgv b N ∧ sgv b N < 170141183460469231731687303715884105728
   ·rw [wenc_in o]
    simp only [if_true]
    rw [WSmall_is _ _ (by unfold Hi; omega) (U_mod _), U_join]
    refine ⟨0, fun k _ => ?_⟩
    simp only [Option.bind_some]
    unfold wsmall
    have hs : sgv b N = (N : Int) ∨ sgv b N = -(N : Int) := by unfold sgv; cases b <;> simp
    by_cases s : -9223372036854775808 ≤ sgv b N ∧ sgv b N ≤ 9223372036854775807
    ·rw [if_pos s, if_pos rfl]
     by_cases g : N ≤ 1000000000000000
     ·rw [if_pos g, if_neg (by omega), if_neg (by omega)]
     ·rw [if_neg g]
      by_cases g1 : sgv b N > 1000000000000000
      ·rw [if_pos g1]
      ·rw [if_neg g1, if_pos (by omega)]
    ·rw [if_neg s, if_neg (by simp), if_neg (by omega)]
   ·have big : ¬ N ≤ 1000000000000000 := by
     intro h
     apply o
     unfold sgv
     cases b <;> simp <;> omega
    rw [wenc_out o, if_neg big]
    simp only
    rw [WSmall_is 0 0 (by unfold Hi; omega) (by unfold U; omega)]
    exact ⟨0, fun k _ => rfl⟩
def stripz (l : List UInt8) : List UInt8 := (l.reverse.dropWhile (fun c => decide (c = 48))).reverse
theorem stripz_snoc (a : List UInt8) (c : UInt8) : stripz (a ++ [c]) = if c = 48 then stripz a else a ++ [c] := by
 unfold stripz
 rw [List.reverse_append, List.reverse_singleton, List.singleton_append, List.dropWhile_cons]
 by_cases h : c = 48
 ·rw [if_pos h, if_pos (decide_eq_true h)]
 ·rw [if_neg h, if_neg (by simpa using h)]; simp
theorem snoc_of {l : List UInt8} (h : l ≠ []) : ∃ a c, l = a ++ [c] := ⟨l.dropLast, l.getLast h, (List.dropLast_concat_getLast h).symm⟩
theorem pad_len {k b : Nat} (hk : 1 ≤ k) (h : b < 10 ^ k) : (pad k b).length = k := by
 have : (Lib.decDigits b).length ≤ k := by
  obtain ⟨j, rfl⟩ : ∃ j, k = j + 1 := ⟨k - 1, by omega⟩
  exact dec_len h
 unfold pad
 rw [List.length_append, List.length_replicate]; omega
theorem pad_some (k b : Nat) (hb : 0 < b) : ∃ c ∈ pad k b, c ≠ 48 := by
 obtain ⟨c, t, e, hc⟩ := dec_head b hb
 refine ⟨c, ?_, ?_⟩
 ·unfold pad; rw [e]; simp
 ·intro h; subst h; exact absurd hc (by decide)
def frac (r : Nat) : List UInt8 := if r = 0 then [] else 46 :: stripz (pad 6 r)
def showW (v : Int) : List UInt8 := (if v < 0 then [45] else []) ++ (Lib.decDigits (v.natAbs / 1000000) ++ frac (v.natAbs % 1000000))
theorem twice_limbs (r b : Int) (h0 : 0 ≤ r) (h1 : r < 340282366920938463463374607431768211456) (hb : b = 0 ∨ b = 1) :
  Go.bits .or .u64 (IntKind.u64.wrap (r % 18446744073709551616 * 2)) b = (2 * r + b) % 18446744073709551616 ∧
  Go.bits .or .u64 (IntKind.u64.wrap (r / 18446744073709551616 * 2)) (r % 18446744073709551616 / 9223372036854775808) = (2 * r + b) % 340282366920938463463374607431768211456 / 18446744073709551616 ∧
  r / 18446744073709551616 / 9223372036854775808 = (2 * r + b) / 340282366920938463463374607431768211456 := by
 rw [wrap_u64, wrap_u64, or_one _ _ (by omega) (by omega) (by omega) (by omega) (by omega), or_one _ _ (by omega) (by omega) (by omega) (by omega) (by omega)]
 omega
theorem less_limbs (s n : Int) (hn : 0 < n) (hn' : n < 340282366920938463463374607431768211456) (h : n ≤ s) (h' : s < 2 * n) :
  subLo (s % 18446744073709551616) (n % 18446744073709551616) 0 = (s - n) % 18446744073709551616 ∧
  subLo (s % 340282366920938463463374607431768211456 / 18446744073709551616) (n / 18446744073709551616) (subHi (s % 18446744073709551616) (n % 18446744073709551616) 0) = (s - n) / 18446744073709551616 := by
 have u0 := U_mod s
 have u1 := U_div (s % 340282366920938463463374607431768211456) (by omega) (by omega)
 have v0 := U_mod n
 have v1 := U_div n (by omega) hn'
 rw [subLo_is _ _ _ u0 v0 (by omega) (by omega), subLo_is _ _ _ u1 v1 (subHi_ge _ _ _) (subHi_le _ _ _), subHi_is _ _ _ u0 v0 (by omega) (by omega)]
 clear u0 u1 v0 v1
 refine ⟨by omega, ?_⟩
 split <;> omega
theorem above_limbs (s n : Int) (h0 : 0 ≤ s) (h1 : s < 680564733841876926926749214863536422912) (hn : 0 < n) (hn' : n < 340282366920938463463374607431768211456) :
  (s / 340282366920938463463374607431768211456 = 1 → n ≤ s) ∧
  (¬ s / 340282366920938463463374607431768211456 = 1 → s % 340282366920938463463374607431768211456 / 18446744073709551616 > n / 18446744073709551616 → n ≤ s) ∧
  (¬ s / 340282366920938463463374607431768211456 = 1 → s % 340282366920938463463374607431768211456 / 18446744073709551616 = n / 18446744073709551616 → (s % 18446744073709551616 ≥ n % 18446744073709551616 ↔ n ≤ s)) ∧
  (¬ s / 340282366920938463463374607431768211456 = 1 → ¬ s % 340282366920938463463374607431768211456 / 18446744073709551616 > n / 18446744073709551616 → ¬ s % 340282366920938463463374607431768211456 / 18446744073709551616 = n / 18446744073709551616 → ¬ n ≤ s) := by
 refine ⟨fun _ => by omega, fun _ _ => by omega, fun _ _ => by omega, fun _ _ _ => by omega⟩
theorem divided_second (k : Nat) (A n r b : Int) (m : Nat) (R : Int × Int × Int × Int) (hm : m < 128) (hA : 0 ≤ A) (hA' : A < 340282366920938463463374607431768211456) (hn : 0 < n) (hn' : n < 340282366920938463463374607431768211456)
  (hb : b = A / 2 ^ m % 2) (hr : r = A / 2 ^ (m + 1) % n)
  (hK : wide_divided.l0 k ((m : Int) - 1) (A % 18446744073709551616) (A / 18446744073709551616) (n % 18446744073709551616) (n / 18446744073709551616)
   (A / 2 ^ m / n * 2 ^ m % 18446744073709551616) (A / 2 ^ m / n * 2 ^ m / 18446744073709551616) (A / 2 ^ m % n % 18446744073709551616) (A / 2 ^ m % n / 18446744073709551616) = some R) (c : Bool) (hc : c = decide (n ≤ 2 * r + b)) :
  wide_divided.j1 (k + 1) (m : Int) c (A % 18446744073709551616) (A / 18446744073709551616) (n % 18446744073709551616) (n / 18446744073709551616)
   (A / 2 ^ (m + 1) / n * 2 ^ (m + 1) % 18446744073709551616) (A / 2 ^ (m + 1) / n * 2 ^ (m + 1) / 18446744073709551616) ((2 * r + b) % 18446744073709551616) ((2 * r + b) % 340282366920938463463374607431768211456 / 18446744073709551616) = some R := by
 have hr0 := Int.emod_nonneg (A / 2 ^ (m + 1)) (show n ≠ 0 by omega)
 have hr1 := Int.emod_lt_of_pos (A / 2 ^ (m + 1)) hn
 obtain ⟨q0, q1, qd⟩ := quo_room A n m hA hA' hn
 obtain ⟨nl, ng⟩ := quo_next A n m hA hn b hb
 rw [← hr] at hr0 hr1 nl ng
 have hb0 : b = 0 ∨ b = 1 := by rw [hb]; omega
 have hnext : wrap64 ((m : Int) - 1) = (m : Int) - 1 := by clear hK; unfold wrap64; omega
 simp only [wide_divided.j1]
 by_cases g : n ≤ 2 * r + b
 ·obtain ⟨e2, e3⟩ := ng g
  obtain ⟨lo, hi'⟩ := less_limbs (2 * r + b) n hn hn' g (by omega)
  rw [hc, decide_eq_true g, if_pos rfl, if_pos (subHi_le _ _ _), lo, hi', tdiv_at m hm, tmod_at, hnext, shl_one _ (by omega) (by omega), Int.toNat_natCast, ← e2]
  by_cases c6 : 64 ≤ m
  ·obtain ⟨s1, s2⟩ := set_high _ m c6 hm q0 q1 qd
   rw [if_neg (by omega), if_pos (by omega), if_pos (by omega), show m % 64 = m - 64 by omega, s1, s2, ← e3]
   exact hK
  ·obtain ⟨s1, s2⟩ := set_low _ m (by omega) q0 qd
   rw [if_pos (by omega), if_pos (by omega), show m % 64 = m by omega, s1, s2, ← e3]
   exact hK
 ·obtain ⟨e2, e3⟩ := nl (by omega)
  have hlt : 2 * r + b < n := by omega
  rw [hc, decide_eq_false g, if_neg (by decide), hnext, ← e2, ← e3, Int.emod_eq_of_lt (a := A / 2 ^ m % n) (b := 340282366920938463463374607431768211456) (by rw [e2]; omega) (by rw [e2]; omega)]
  exact hK
theorem j2_is_j1 (k : Nat) (x8 : Int) (x64 : Bool) (a0 a1 b0 b1 c0 c1 d0 d1 : Int) : wide_divided.j2 (k + 1) x8 x64 a0 a1 b0 b1 c0 c1 d0 d1 = wide_divided.j1 (k + 1) x8 x64 a0 a1 b0 b1 c0 c1 d0 d1 := by
 simp only [wide_divided.j1, wide_divided.j2]
theorem divided_from (A n : Int) (hA : 0 ≤ A) (hA' : A < 340282366920938463463374607431768211456) (hn : 0 < n) (hn' : n < 340282366920938463463374607431768211456) (m : Nat) : m ≤ 128 →
  Ev (fun k => wide_divided.l0 k ((m : Int) - 1) (A % 18446744073709551616) (A / 18446744073709551616) (n % 18446744073709551616) (n / 18446744073709551616)
   (A / 2 ^ m / n * 2 ^ m % 18446744073709551616) (A / 2 ^ m / n * 2 ^ m / 18446744073709551616) (A / 2 ^ m % n % 18446744073709551616) (A / 2 ^ m % n / 18446744073709551616))
   (A / n % 18446744073709551616, A / n / 18446744073709551616, A % n % 18446744073709551616, A % n / 18446744073709551616) := by
 induction m with
 | zero =>
  intro _
  refine ⟨1, fun k hk => ?_⟩
  obtain ⟨k, rfl⟩ : ∃ j, k = j + 1 := ⟨k - 1, by omega⟩
  simp only [wide_divided.l0]
  rw [if_neg (by decide), Int.pow_zero, Int.ediv_one, Int.mul_one]
 | succ m ih =>
  intro hm
  obtain ⟨K, hK⟩ := ih (by omega)
  refine ⟨K + 2, fun k hk => ?_⟩
  obtain ⟨k, rfl⟩ : ∃ j, k = j + 2 := ⟨k - 2, by omega⟩
  have hi : (((m + 1 : Nat) : Int) - 1) = m := by omega
  have sec := divided_second k A n _ _ m _ (by omega) hA hA' hn hn' rfl rfl (hK k (by omega))
  have hr0 := Int.emod_nonneg (A / 2 ^ (m + 1)) (show n ≠ 0 by omega)
  have hr1 := Int.emod_lt_of_pos (A / 2 ^ (m + 1)) hn
  have hb : A / 2 ^ m % 2 = 0 ∨ A / 2 ^ m % 2 = 1 := by clear sec hr0 hr1; omega
  obtain ⟨l1, l2, l3⟩ := twice_limbs (A / 2 ^ (m + 1) % n) (A / 2 ^ m % 2) hr0 (Int.lt_trans hr1 hn') hb
  obtain ⟨t1, t2, t3, t4⟩ := above_limbs (2 * (A / 2 ^ (m + 1) % n) + A / 2 ^ m % 2) n (by clear sec l1 l2 l3; omega) (by clear sec l1 l2 l3; omega) hn hn'
  clear hK ih
  show wide_divided.l0 (k + 2) _ _ _ _ _ _ _ _ _ = _
  simp only [wide_divided.l0]
  rw [hi, if_pos (by clear sec l1 l2 l3 t1 t2 t3 t4; omega), tdiv_at m (by omega), tmod_at]
  by_cases c6 : 64 ≤ m
  ·rw [if_neg (by clear sec l1 l2 l3 t1 t2 t3 t4; omega), if_pos (by clear sec l1 l2 l3 t1 t2 t3 t4; omega), if_pos (by clear sec l1 l2 l3 t1 t2 t3 t4; omega), bit_high A m hA hA' c6 (by omega), l1, l2, l3]
   simp only [j2_is_j1]
   split
   ·exact sec _ (decide_eq_true (t1 ‹_›)).symm
   ·split
    ·exact sec _ (decide_eq_true (t2 ‹_› ‹_›)).symm
    ·split
     ·exact sec _ (decide_eq_decide.2 (t3 ‹_› ‹_›))
     ·exact sec _ (decide_eq_false (t4 ‹_› ‹_› ‹_›)).symm
  ·rw [if_pos (by clear sec l1 l2 l3 t1 t2 t3 t4; omega), if_pos (by clear sec l1 l2 l3 t1 t2 t3 t4; omega), bit_low A m (by omega), l1, l2, l3]
   split
   ·exact sec _ (decide_eq_true (t1 ‹_›)).symm
   ·split
    ·exact sec _ (decide_eq_true (t2 ‹_› ‹_›)).symm
    ·split
     ·exact sec _ (decide_eq_decide.2 (t3 ‹_› ‹_›))
     ·exact sec _ (decide_eq_false (t4 ‹_› ‹_› ‹_›)).symm
theorem divided_is (A n : Int) (hA : 0 ≤ A) (hA' : A < 340282366920938463463374607431768211456) (hn : 0 < n) (hn' : n < 340282366920938463463374607431768211456) :
  Ev (fun k => wide_divided.f k (A % 18446744073709551616) (A / 18446744073709551616) (n % 18446744073709551616) (n / 18446744073709551616))
   (A / n % 18446744073709551616, A / n / 18446744073709551616, A % n % 18446744073709551616, A % n / 18446744073709551616) := by
 have e := divided_from A n hA hA' hn hn' 128 (by omega)
 have z : A / 2 ^ 128 = 0 := by
  rw [show (2 : Int) ^ 128 = 340282366920938463463374607431768211456 by decide]; omega
 rw [z] at e
 simp only [Int.zero_emod, Int.zero_ediv, Int.zero_mul] at e
 exact e
theorem fmt_is (u : Int) (hu : U u) : strconv_FormatUint.f u 10 = some (bs (Lib.decDigits u.toNat)) := by
 unfold strconv_FormatUint.f
 rw [if_pos ⟨hu.1, hu.2, rfl⟩]; rfl
theorem rep_is (n : Nat) (hn : n ≤ 1000) : strings_Repeat.f (⟨#[48]⟩ : ByteArray) (n : Int) = some (bs (List.replicate n 48)) := by
 unfold strings_Repeat.f
 rw [if_pos ⟨by omega, by omega, by decide⟩, Int.toNat_natCast, show (⟨#[48]⟩ : ByteArray).data.toList = [48] from rfl, repeat_zero]; rfl
def sgn (h : Int) : List UInt8 := if h < 0 then [45] else []
theorem minus_is (s : List UInt8) : (⟨#[45]⟩ : ByteArray) ++ bs s = bs (45 :: s) := bs_app [45] s
theorem WPrint_from (h l : Int) (j : Nat) : ∀ (M : Int) (s : List UInt8), 0 ≤ M → M < 340282366920938463463374607431768211456 → M < 10 ^ (19 * j) → s.length + 19 * j ≤ 1000 →
  Ev (fun k => wide_Print.l0 k (bs s) h l (M % 18446744073709551616) (M / 18446744073709551616)) (bs (sgn h ++ (Lib.decDigits M.toNat ++ s))) := by
 induction j with
 | zero =>
  intro M s h0 h1 h2 h3
  have : M = 0 := by simp at h2; omega
  subst this
  obtain ⟨K, hK⟩ := divided_is 0 10000000000000000000 (by omega) (by omega) (by omega) (by omega)
  refine ⟨K + 1, fun k hk => ?_⟩
  obtain ⟨k, rfl⟩ : ∃ j, k = j + 1 := ⟨k - 1, by omega⟩
  have e := hK k (by omega)
  simp only [show (10000000000000000000 : Int) % 18446744073709551616 = 10000000000000000000 by decide, show (10000000000000000000 : Int) / 18446744073709551616 = 0 by decide, show (0 : Int) / 10000000000000000000 = 0 by decide, show (0 : Int) % 10000000000000000000 = 0 by decide, show (0 : Int) / 18446744073709551616 = 0 by decide, show (0 : Int) % 18446744073709551616 = 0 by decide] at e
  simp only [wide_Print.l0, show (0 : Int) / 18446744073709551616 = 0 by decide, show (0 : Int) % 18446744073709551616 = 0 by decide, e, Option.bind_some]
  rw [fmt_is 0 (by unfold U; omega)]
  simp only [Option.bind_some, if_true]
  rw [bs_app, bs_size, bs_size, bs_size]
  have hl : (Lib.decDigits (0 : Int).toNat).length ≤ 1 := dec_len (k := 0) (by decide)
  rw [if_pos (by omega), minus_is]
  unfold sgn
  by_cases c : h < 0
  ·rw [if_pos c, if_pos (by rw [List.length_append]; omega), if_pos c]; rfl
  ·rw [if_neg c, if_neg c]; rfl
 | succ j ih =>
  intro M s h0 h1 h2 h3
  obtain ⟨K, hK⟩ := divided_is M 10000000000000000000 h0 h1 (by omega) (by omega)
  simp only [show (10000000000000000000 : Int) % 18446744073709551616 = 10000000000000000000 by decide, show (10000000000000000000 : Int) / 18446744073709551616 = 0 by decide] at hK
  have er : M % 10000000000000000000 % 18446744073709551616 = M % 10000000000000000000 := by omega
  have ur : U (M % 10000000000000000000) := by unfold U; omega
  have hl : (Lib.decDigits (M % 10000000000000000000).toNat).length ≤ 19 := dec_len (k := 18) (by
   rw [show (10 : Nat) ^ (18 + 1) = 10000000000000000000 by decide]; omega)
  have hp := dec_pos (M % 10000000000000000000).toNat
  have ew : wrap64 (19 - ((Lib.decDigits (M % 10000000000000000000).toNat).length : Int)) = ((19 - (Lib.decDigits (M % 10000000000000000000).toNat).length : Nat) : Int) := by unfold wrap64; omega
  by_cases c : M / 10000000000000000000 = 0
  ·refine ⟨K + 1, fun k hk => ?_⟩
   obtain ⟨k, rfl⟩ : ∃ j, k = j + 1 := ⟨k - 1, by omega⟩
   have e := hK k (by omega)
   have eM : M % 10000000000000000000 = M := by omega
   rw [eM] at hl hp ur
   simp only [c, show (0 : Int) / 18446744073709551616 = 0 by decide, show (0 : Int) % 18446744073709551616 = 0 by decide, er, eM] at e
   simp only [wide_Print.l0, e, Option.bind_some]
   rw [show M % 18446744073709551616 = M by unfold U at ur; omega, fmt_is M ur]
   simp only [Option.bind_some, if_true]
   rw [bs_app, bs_size, bs_size, bs_size, if_pos (by omega), minus_is]
   unfold sgn
   by_cases c : h < 0
   ·rw [if_pos c, if_pos (by rw [List.length_append]; omega), if_pos c]; rfl
   ·rw [if_neg c, if_neg c]; rfl
  ·have q0 : 0 < M / 10000000000000000000 := by omega
   obtain ⟨K', hK'⟩ := ih (M / 10000000000000000000) (pad 19 (M % 10000000000000000000).toNat ++ s) (by omega) (by omega) (by
     rw [show 19 * (j + 1) = 19 * j + 19 by omega, Int.pow_add, show (10 : Int) ^ 19 = 10000000000000000000 by decide] at h2
     exact Int.ediv_lt_of_lt_mul (by decide) h2) (by
     unfold pad
     rw [List.length_append, List.length_append, List.length_replicate]; omega)
   have eD : Lib.decDigits (M / 10000000000000000000).toNat ++ (pad 19 (M % 10000000000000000000).toNat ++ s) = Lib.decDigits M.toNat ++ s := by
    rw [← List.append_assoc, ← dec_split _ 19 _ (by omega) (by decide) (by rw [show (10 : Nat) ^ 19 = 10000000000000000000 by decide]; omega)]
    congr 2
    rw [show (10 : Nat) ^ 19 = 10000000000000000000 by decide]; omega
   rw [eD] at hK'
   refine ⟨max K K' + 1, fun k hk => ?_⟩
   obtain ⟨k, rfl⟩ : ∃ j, k = j + 1 := ⟨k - 1, by omega⟩
   have e := hK k (by omega)
   have e' := hK' k (by omega)
   simp only [er] at e
   simp only at e'
   have tail : (if (bs (List.replicate (19 - (Lib.decDigits (M % 10000000000000000000).toNat).length) 48)).size + (bs (Lib.decDigits (M % 10000000000000000000).toNat)).size ≤ 9223372036854775807 then (if (bs (List.replicate (19 - (Lib.decDigits (M % 10000000000000000000).toNat).length) 48) ++ bs (Lib.decDigits (M % 10000000000000000000).toNat)).size + (bs s).size ≤ 9223372036854775807 then (wide_Print.l0 k ((bs (List.replicate (19 - (Lib.decDigits (M % 10000000000000000000).toNat).length) 48) ++ bs (Lib.decDigits (M % 10000000000000000000).toNat)) ++ bs s) h l (M / 10000000000000000000 % 18446744073709551616) (M / 10000000000000000000 / 18446744073709551616)) else (none)) else (none)) = some (bs (sgn h ++ (Lib.decDigits M.toNat ++ s))) := by
    rw [bs_app, bs_app, bs_size, bs_size, bs_size, bs_size, List.length_append, List.length_replicate, if_pos (by omega), if_pos (by omega)]
    exact e'
   simp only [wide_Print.l0, e, Option.bind_some]
   rw [fmt_is _ ur]
   simp only [Option.bind_some]
   rw [bs_size, ew, rep_is _ (by omega)]
   simp only [Option.bind_some]
   rw [bs_size] at tail
   by_cases d : M / 10000000000000000000 % 18446744073709551616 = 0
   ·rw [if_pos d, if_neg (by omega)]; exact tail
   ·rw [if_neg d]; exact tail
theorem sgn_itoa (h l : Int) (hl : U l) : sgn h ++ (Lib.decDigits (mag (h * 18446744073709551616 + l)).toNat ++ []) = Lib.itoa (h * 18446744073709551616 + l) := by
 unfold sgn Lib.itoa U at *
 rw [List.append_nil]
 by_cases c : h < 0
 ·rw [if_pos c, if_pos (by omega), mag_neg (by omega), show (-(h * 18446744073709551616 + l)).toNat = (h * 18446744073709551616 + l).natAbs by omega]; rfl
 ·rw [if_neg c, if_neg (by omega), mag_pos (by omega)]; rfl
theorem WPrint_is (h l : Int) (hh : Hi h) (hl : U l) : Ev (fun k => wide_Print.f k h l) (bs (Lib.itoa (h * 18446744073709551616 + l))) := by
 have m := mag_lt h l hh hl
 have n := mag_nonneg (h * 18446744073709551616 + l)
 simp only [wide_Print.f]
 rw [amount_is h l hh hl, ← sgn_itoa h l hl]
 simp only [Option.bind_some]
 exact WPrint_from h l 3 _ [] n (by omega) (by rw [show (10 : Int) ^ (19 * 3) = 1000000000000000000000000000000000000000000000000000000000 by decide]; omega) (by simp)
theorem enc_parts {v : Int} (h : -170141183460469231731687303715884105728 ≤ v ∧ v < 170141183460469231731687303715884105728) : Hi (v / 18446744073709551616) ∧ U (v % 18446744073709551616) := by
 unfold Hi U; omega
theorem wide_in (h l : Int) (hh : Hi h) (hl : U l) : -170141183460469231731687303715884105728 ≤ h * 18446744073709551616 + l ∧ h * 18446744073709551616 + l < 170141183460469231731687303715884105728 := by
 unfold Hi U at *; omega
def wquo (v w : Int) : Int × Int × Int × Int × Int :=
 if Int.tdiv v w < 170141183460469231731687303715884105728 then (Int.tdiv v w / 18446744073709551616, Int.tdiv v w % 18446744073709551616, Int.tmod v w / 18446744073709551616, Int.tmod v w % 18446744073709551616, 0) else (0, 0, 0, 0, 10)
theorem Quo_is (h l h' l' : Int) (hh : Hi h) (hl : U l) (hh' : Hi h') (hl' : U l') (h0 : h' * 18446744073709551616 + l' ≠ 0) :
  Ev (fun k => wide_Quo.f k h l h' l') (wquo (h * 18446744073709551616 + l) (h' * 18446744073709551616 + l')) := by
 obtain ⟨e1, e2⟩ := tdiv_mag (h * 18446744073709551616 + l) (h' * 18446744073709551616 + l') h0
 have m1 := mag_lt h l hh hl
 have m2 := mag_lt h' l' hh' hl'
 have n1 := mag_nonneg (h * 18446744073709551616 + l)
 have n2 : 0 < mag (h' * 18446744073709551616 + l') := by unfold mag; split <;> omega
 obtain ⟨K, hK⟩ := divided_is (mag (h * 18446744073709551616 + l)) (mag (h' * 18446744073709551616 + l')) n1 (by omega) n2 (by omega)
 refine ⟨K + 1, fun k hk => ?_⟩
 have hKk := hK k (by omega)
 obtain ⟨k, rfl⟩ : ∃ j, k = j + 1 := ⟨k - 1, by omega⟩
 clear hK
 unfold wquo
 rw [e1, e2, ← Hi_neg h l hl, ← Hi_neg h' l' hl']
 simp only [wide_Quo.f]
 have hz : ¬ (h' == 0 && (l' == 0)) = true := by
  simp only [Bool.and_eq_true, beq_iff_eq]; omega
 rw [if_neg hz, amount_is h l hh hl, amount_is h' l' hh' hl']
 simp only [Option.bind_some]
 clear e1 e2 hz h0
 generalize mag (h * 18446744073709551616 + l) = M at *
 generalize mag (h' * 18446744073709551616 + l') = N at *
 simp only [hKk, Option.bind_some]
 have q0 : 0 ≤ M / N := Int.ediv_nonneg n1 (Int.le_of_lt n2)
 have q1 : M / N ≤ M := Int.ediv_le_self _ n1
 have r0 : 0 ≤ M % N := Int.emod_nonneg _ (by omega)
 have r1 : M % N < N := Int.emod_lt_of_pos _ n2
 rw [signed_at k _ _ _ (U_mod _) (U_div _ q0 (by omega)), U_join, wsigned_enc _ _ q0]
 simp only [Option.bind_some]
 generalize (decide (h < 0) != decide (h' < 0)) = s
 generalize decide (h < 0) = t
 generalize M / N = q at *
 rw [signed_at k _ _ _ (U_mod _) (U_div _ r0 (by omega)), U_join, wsigned_enc _ _ r0]
 simp only [Option.bind_some]
 generalize M % N = r at *
 by_cases c : (if s = true then -q else q) < 170141183460469231731687303715884105728
 ·rw [wenc_in (by cases s <;> simp only [Bool.false_eq_true, if_false, if_true] at * <;> omega), if_pos c, if_pos rfl, wenc_in (by cases t <;> simp only [Bool.false_eq_true, if_false, if_true] <;> omega)]
 ·rw [wenc_out (by omega), if_neg c, if_neg (by decide)]
theorem point_is (t d : List UInt8) : (bs t ++ (⟨#[46]⟩ : ByteArray)) ++ bs d = bs (t ++ 46 :: d) := by
 rw [show bs t ++ (⟨#[46]⟩ : ByteArray) = bs (t ++ [46]) from bs_app t [46], bs_app, List.append_assoc]; rfl
theorem point_size (t : List UInt8) : (bs t ++ (⟨#[46]⟩ : ByteArray)).size = t.length + 1 := by
 rw [show bs t ++ (⟨#[46]⟩ : ByteArray) = bs (t ++ [46]) from bs_app t [46], bs_size]; simp
theorem take_snoc_ (a : List UInt8) (c : UInt8) : ((a ++ [c]).drop 0).take (a.length - 0) = a := by simp
theorem MShow_from (t : List UInt8) (ht : t.length ≤ 1000) (n : Nat) : ∀ d : List UInt8, d.length = n → n ≤ 1000 → (∃ c ∈ d, c ≠ 48) → Ev (fun k => micro_Show.l0 k (bs t) (bs d)) (bs (t ++ 46 :: stripz d)) := by
 induction n with
 | zero =>
  intro d hd _ h
  obtain rfl := List.length_eq_zero_iff.1 hd
  simp at h
 | succ n ih =>
  intro d hd hn h
  obtain ⟨a, c, rfl⟩ := snoc_of (l := d) (by intro e; subst e; simp at hd)
  rw [List.length_append, List.length_singleton] at hd
  have ew : wrap64 (((a ++ [c]).length : Int) - 1) = (a.length : Int) := by
   rw [List.length_append, List.length_singleton]; unfold wrap64; omega
  have hb : bt (bs (a ++ [c])) (a.length : Int) = (c.toNat : Int) := by
   rw [bt_bs (a ++ [c]) a.length (by simp)]; simp
  have i1 : (0 : Int) ≤ (a.length : Int) := by omega
  have i2 : (a.length : Int) < ((a ++ [c]).length : Int) := by rw [List.length_append, List.length_singleton]; omega
  have i3 : (a.length : Int) ≤ ((a ++ [c]).length : Int) := by omega
  rw [stripz_snoc]
  by_cases hc : c = 48
  ·rw [if_pos hc]
   have h' : ∃ x ∈ a, x ≠ 48 := by
    obtain ⟨x, hx, hx'⟩ := h
    rcases List.mem_append.1 hx with g | g
    ·exact ⟨x, g, hx'⟩
    ·simp at g; subst g; exact absurd hc hx'
   refine Ev.step (fun k => ?_) (ih a (by omega) (by omega) h')
   simp only [micro_Show.l0]
   rw [bs_size, ew, if_pos i1, if_pos i2, hb, hc, if_pos (by decide), if_pos (by rw [← hc]; exact i3), Int.toNat_natCast, ← hc, bs_extract, take_snoc_]
  ·rw [if_neg hc]
   refine ⟨1, fun k hk => ?_⟩
   obtain ⟨k, rfl⟩ : ∃ j, k = j + 1 := ⟨k - 1, by omega⟩
   have hc' : ¬ (c.toNat : Int) = 48 := fun g => hc (UInt8.toNat_inj.1 (by rw [show (48 : UInt8).toNat = 48 from rfl]; omega))
   simp only [micro_Show.l0]
   rw [bs_size, ew, if_pos i1, if_pos i2, hb, if_neg hc', bs_size, if_pos (by omega), point_size, if_pos (by rw [List.length_append, List.length_singleton]; omega), point_is]
theorem fmtI_is (u : Nat) (hu : u < 1000000) : strconv_FormatInt.f (wrap64 (1000000 + (u : Int))) 10 = some (bs (49 :: pad 6 u)) := by
 have ew : wrap64 (1000000 + (u : Int)) = ((1000000 + u : Nat) : Int) := by unfold wrap64; omega
 unfold strconv_FormatInt.f
 rw [ew, if_pos ⟨by omega, by omega, rfl⟩]
 have e := dec_split 1 6 u (by decide) (by decide) (by simpa using hu)
 rw [show 1 * 10 ^ 6 + u = 1000000 + u by simp, dec_small (u := 1) (by decide)] at e
 have : Lib.itoa ((1000000 + u : Nat) : Int) = Lib.decDigits (1000000 + u) := by unfold Lib.itoa; rw [if_neg (by omega), Int.toNat_natCast]
 rw [this, e]; rfl
theorem MShow_j (t : List UInt8) (ht : t.length ≤ 1000) (r : Nat) (hr : r < 1000000) : Ev (fun k => micro_Show.j0 k (bs t) ((r : Int) / 18446744073709551616) ((r : Int) % 18446744073709551616)) (bs (t ++ frac r)) := by
 have sm := WSmall_is ((r : Int) / 18446744073709551616) ((r : Int) % 18446744073709551616) (by unfold Hi; omega) (U_mod _)
 rw [U_join] at sm
 unfold wsmall at sm
 rw [if_pos (by omega)] at sm
 by_cases z : r = 0
 ·subst z
  refine ⟨1, fun k hk => ?_⟩
  obtain ⟨k, rfl⟩ : ∃ j, k = j + 1 := ⟨k - 1, by omega⟩
  simp only [micro_Show.j0]
  rw [sm]
  simp [frac]
 ·have l6 := pad_len (k := 6) (b := r) (by decide) (by simpa using hr)
  have fr := MShow_from t ht 6 (pad 6 r) l6 (by decide) (pad_some 6 r (by omega))
  unfold frac
  rw [if_neg z]
  refine Ev.step (fun k => ?_) fr
  have z' : ¬ (r : Int) = 0 := by omega
  simp only [micro_Show.j0]
  rw [sm]
  simp only [Option.bind_some, z', if_false]
  rw [fmtI_is r hr]
  simp only [Option.bind_some]
  rw [bs_size, if_pos (by simp; omega), bs_extract]
  simp
theorem abs_parts (v : Int) : mag v = (v.natAbs : Int) := by unfold mag; split <;> omega
theorem MShow_is (h l : Int) (hh : Hi h) (hl : U l) : Ev (fun k => micro_Show.f k h l) (bs (showW (h * 18446744073709551616 + l))) := by
 have wi := wide_in h l hh hl
 have q := Quo_is h l 0 1000000 hh hl (by unfold Hi; omega) (by unfold U; omega) (by decide)
 rw [show (0 * 18446744073709551616 + 1000000 : Int) = 1000000 by decide] at q
 obtain ⟨e1, e2⟩ := round_quo (h * 18446744073709551616 + l) 1000000 (by decide)
 rw [abs_parts] at e1 e2
 have sg := WSign_is h l hl
 have oo : wide_Of.f 1000000 = some (0, 1000000) := by rw [WOf_is 1000000 (by unfold Hi; omega)]; rfl
 unfold wquo at q
 rw [e1, e2] at q
 generalize h * 18446744073709551616 + l = v at *
 have hq : (v.natAbs : Int) / 1000000 = ((v.natAbs / 1000000 : Nat) : Int) := by omega
 have hr : (v.natAbs : Int) % 1000000 = ((v.natAbs % 1000000 : Nat) : Int) := by omega
 rw [hq, hr] at q
 have lq : (Lib.decDigits (v.natAbs / 1000000)).length ≤ 33 := dec_len (k := 32) (by
  rw [show (10 : Nat) ^ (32 + 1) = 1000000000000000000000000000000000 by decide +kernel]; omega)
 have rl : v.natAbs % 1000000 < 1000000 := Nat.mod_lt _ (by decide)
 have ql : v.natAbs / 1000000 ≤ 170141183460469231731687303715884 := by omega
 simp only [micro_Show.f]
 rw [oo]
 simp only [Option.bind_some]
 unfold showW
 generalize v.natAbs / 1000000 = a at *
 generalize v.natAbs % 1000000 = r at *
 clear hq hr e1 e2 oo
 by_cases c : v < 0
 ·simp only [c, if_true] at q ⊢
  rw [if_pos (by omega)] at q
  obtain ⟨p1, p2⟩ := enc_parts (v := -(a : Int)) (by omega)
  obtain ⟨p3, p4⟩ := enc_parts (v := -(r : Int)) (by omega)
  have pr := WPrint_is _ _ p1 p2
  rw [U_join] at pr
  have sq := WSign_is (-(a : Int) / 18446744073709551616) _ p2
  rw [U_join] at sq
  have ng := WNeg_is _ _ p3 p4
  rw [U_join, Int.neg_neg, wenc_in (by omega)] at ng
  refine Ev.bind q (Ev.bind pr ?_)
  simp only [sg, cmp_lt c, sq, ng, Option.bind_some, show (-1 : Int) < 0 by decide, if_true]
  by_cases z : a = 0
  ·subst z
   have : cmp (-((0 : Nat) : Int)) 0 = 0 := by decide
   simp only [this, if_true]
   have := MShow_j [45, 48] (by decide) r rl
   rw [dec_small (by decide)]
   exact this
  ·have e : cmp (-(a : Int)) 0 = -1 := cmp_lt (by omega)
   simp only [e, show ¬ (-1 : Int) = 0 by decide, if_false]
   have et : Lib.itoa (-(a : Int)) = 45 :: Lib.decDigits a := by
    unfold Lib.itoa; rw [if_pos (by omega), show (-(a : Int)).natAbs = a by omega]
   rw [et]
   exact MShow_j (45 :: Lib.decDigits a) (by simp; omega) r rl
 ·simp only [c, if_false] at q ⊢
  rw [if_pos (by omega)] at q
  obtain ⟨p1, p2⟩ := enc_parts (v := (a : Int)) (by omega)
  have pr := WPrint_is _ _ p1 p2
  rw [U_join] at pr
  refine Ev.bind q (Ev.bind pr ?_)
  have s0 : ¬ cmp v 0 < 0 := by rcases cmp_cases v 0 with ⟨g, _⟩ | ⟨_, e⟩ | ⟨_, e⟩ <;> omega
  simp only [sg, Option.bind_some, s0, if_false]
  have et : Lib.itoa (a : Int) = Lib.decDigits a := by unfold Lib.itoa; rw [if_neg (by omega)]; simp
  rw [et]
  exact MShow_j (Lib.decDigits a) (by omega) r rl
theorem MPrint_is (n : Int) (hn : Hi n) : Ev (fun k => micro_Print.f k n) (bs (showW n)) := by
 have hn' := hn
 unfold Hi at hn'
 have sh := MShow_is (n / 18446744073709551616) (n % 18446744073709551616) (by unfold Hi; omega) (U_mod n)
 rw [U_join] at sh
 simp only [micro_Print.f]
 rw [WOf_is n hn]
 simp only [Option.bind_some]
 exact Ev.bind sh (Ev.now _)
theorem awake_is : Ev (fun k => tumblerlaw02_awake.f k) true := by
 have p1 := MParse_is [49, 46, 53] (by decide)
 have p2 := MRead_is [48, 46, 48, 48, 48, 48, 48, 49] (by decide)
 have p3 := MPrint_is (-1) (by unfold Hi; omega)
 have e1 : parseV [49, 46, 53] = (1500000, 0) := by decide
 have e2 : readW [48, 46, 48, 48, 48, 48, 48, 49] = (0, 1, 0) := by decide
 have e3 : showW (-1) = [45, 48, 46, 48, 48, 48, 48, 48, 49] := by
  unfold showW
  rw [if_pos (by decide), show (-1 : Int).natAbs / 1000000 = 0 from rfl, show (-1 : Int).natAbs % 1000000 = 1 from rfl, dec_small (by decide)]
  unfold frac
  rw [if_neg (by decide)]
  unfold pad
  rw [dec_small (by decide)]
  decide
 rw [e1] at p1
 rw [e2] at p2
 rw [e3] at p3
 simp only [tumblerlaw02_awake.f]
 refine Ev.bind p1 (Ev.bind p2 ?_)
 simp only [if_true]
 refine Ev.bind p3 ⟨0, fun k _ => ?_⟩
 show some _ = some _
 rw [bs_list]
 rfl
theorem MicroReads : tumblerlaw02_MicroReads.Pure := by
 intro s hs
 refine Ev_rounds (g := fun k => tumblerlaw02_MicroReads.f k s) ?_
 rw [← bs_of s] at hs ⊢
 generalize s.data.toList = l at *
 rw [bs_size] at hs
 simp only [tumblerlaw02_MicroReads.f]
 refine Ev.bind (MRead_is l hs) (Ev.bind (RRead_is l hs) (Ev.bind awake_is ⟨0, fun k _ => ?_⟩))
 dsimp only
 rw [if_pos rfl, beq_self_eq_true, beq_self_eq_true, beq_self_eq_true, if_pos (show (true && true) = true from rfl)]
end Go.Proofs.YtcfhmbhlibhlnaaDoor.MM
