/- What MicroPrints says of whole numbers and texts alone, and why it holds: this session's own texts in one. -/
import Derived.Test.YtcfhmbhlibhlnaaDoorMine
import Derived.Test.YtcfhmbhlibhlnaaDoorPx0
import Derived.Test.YtcfhmbhlibhlnaaDoorPxf64
import Derived.Test.YtcfhmbhlibhlnaaDoorPxf72
import Derived.Test.YtcfhmbhlibhlnaaDoorPxf65
import Derived.Test.YtcfhmbhlibhlnaaDoorPxf25
import Derived.Test.YtcfhmbhlibhlnaaDoorPxf47
import Derived.Test.YtcfhmbhlibhlnaaDoorPxf41
import Derived.Test.YtcfhmbhlibhlnaaDoorPxf31
import Derived.Test.YtcfhmbhlibhlnaaDoorPxf39
import Derived.Test.YtcfhmbhlibhlnaaDoorPxf30
import Derived.Test.YtcfhmbhlibhlnaaDoorPxf50
import Derived.Test.YtcfhmbhlibhlnaaDoorPxf43
import Derived.Test.YtcfhmbhlibhlnaaDoorPxf45
import Derived.Test.YtcfhmbhlibhlnaaDoorPxf32d
import Derived.Test.YtcfhmbhlibhlnaaDoorPxf54
import Derived.Test.YtcfhmbhlibhlnaaDoorPxf127
import Derived.Test.YtcfhmbhlibhlnaaDoorPxf89
import Derived.Test.YtcfhmbhlibhlnaaDoorPxf113
import Derived.Test.YtcfhmbhlibhlnaaDoorPxf88
import Derived.Test.YtcfhmbhlibhlnaaDoorPxf90
import Derived.Test.YtcfhmbhlibhlnaaDoorPxf18
namespace Go.Proofs.YtcfhmbhlibhlnaaDoor.MM
open Go.RowKit Go.Proofs.YtcfhmbhlibhlnaaDoor.P Go.Proofs.YtcfhmbhlibhlnaaDoorW.PrintWords Go.Proofs.YtcfhmbhlibhlnaaDoorW.PrintMore Go.Proofs.YtcfhmbhlibhlnaaDoor.Mine
set_option linter.unusedVariables false
set_option linter.unusedSimpArgs false
theorem Ev_rounds {α : Type} {g : Nat → Option α} {r : α} (h : Ev g r) : ∃ k, g k = some r := by
  obtain ⟨K, h⟩ := h
  exact ⟨K, h K (Nat.le_refl _)⟩
theorem wrap_u64 (n : Int) : IntKind.u64.wrap n = n % 18446744073709551616 := by simp [IntKind.wrap, IntKind.bits, IntKind.signed]
theorem wraps_u64 (n : Int) (h₀ : 0 ≤ n) (h₁ : n < 2 ^ 64) : IntKind.u64.wrap n = n := by rw [wrap_u64]; omega
theorem and_one (x : Int) (h0 : 0 ≤ x) (h1 : x < 18446744073709551616) : Go.bits .and .u64 x 1 = x % 2 :=
  bits_mask .u64 64 (by decide) wraps_u64 1 (by decide) x h0 (by simpa using h1)
theorem or_one (x y : Int) (h0 : 0 ≤ x) (h1 : x < 18446744073709551616) (h2 : x % 2 = 0) (h3 : 0 ≤ y) (h4 : y < 2) : Go.bits .or .u64 x y = x + y :=
  bits_join .u64 64 (by decide) wraps_u64 1 x y h0 (by simpa using h2) (by simpa using h1) h3 (by simpa using h4) (by simp; omega)
theorem two_lt (j : Nat) : (2 : Int) ^ j < 2 ^ (j + 1) := by
  have hz : (0 : Int) < 2 ^ j := Int.pow_pos (by decide)
  rw [Int.pow_succ]; omega
theorem two_le {j i : Nat} (h : j ≤ i) : (2 : Int) ^ j ≤ 2 ^ i := by
  have h : (2 : Nat) ^ j ≤ 2 ^ i := Nat.pow_le_pow_right (by decide) h
  exact_mod_cast h
theorem or_bit (x : Int) (j : Nat) (hj : j < 64) (h0 : 0 ≤ x) (h1 : x < 18446744073709551616) (h2 : x % 2 ^ (j + 1) = 0) : Go.bits .or .u64 x (2 ^ j) = x + 2 ^ j := by
  have hp := two_lt j
  have hq : (2 : Int) ^ (j + 1) ≤ 2 ^ 64 := two_le (by omega)
  have hz : (0 : Int) < 2 ^ j := Int.pow_pos (by decide)
  exact bits_join .u64 64 (by decide) wraps_u64 (j + 1) x (2 ^ j) h0 h2 (by simpa using h1) (Int.le_of_lt hz) hp (by omega)
theorem shl_one (i : Int) (h0 : 0 ≤ i) (h1 : i < 64) : shl .u64 1 i = 2 ^ i.toNat := by
  have e : min i.toNat (IntKind.u64.bits) = i.toNat := by show min i.toNat 64 = _; omega
  unfold shl; rw [e, Int.one_mul]
  apply wraps_u64 _ (Int.le_of_lt (Int.pow_pos (by decide)))
  have h : (2 : Nat) ^ i.toNat < 2 ^ 64 := Nat.pow_lt_pow_right (by decide) (by omega)
  exact_mod_cast h
theorem shr_at (x i : Int) (h0 : 0 ≤ i) (h1 : i < 64) : shr .u64 x i = x / 2 ^ i.toNat := by
  have e : min i.toNat (IntKind.u64.bits) = i.toNat := by show min i.toNat 64 = _; omega
  unfold shr; rw [e]
theorem wf_i64 {a : Int} (h : (Lit.int .i64 a).wf = true) : -9223372036854775808 ≤ a ∧ a ≤ 9223372036854775807 := by
  have e1 : IntKind.i64.min = -9223372036854775808 := by decide
  have e2 : IntKind.i64.max = 9223372036854775807 := by decide
  simpa [Lit.wf, e1, e2] using h
def U (x : Int) : Prop := 0 ≤ x ∧ x < 18446744073709551616
theorem pair2 {α β : Type} {a a' : α} {b b' : β} (h : a = a') (h' : b = b') : some (a, b) = some (a', b') := by subst h h'; rfl
theorem trip {α β γ : Type} {a a' : α} {b b' : β} {c c' : γ} (h : a = a') (h' : b = b') (h'' : c = c') : some (a, b, c) = some (a', b', c') := by subst h h' h''; rfl
/-- A wide number's bounds. -/
def Hi (x : Int) : Prop := -9223372036854775808 ≤ x ∧ x ≤ 9223372036854775807
def mag (v : Int) : Int := if v < 0 then -v else v
theorem mag_pos {v : Int} (h : 0 ≤ v) : mag v = v := if_neg (by omega)
theorem mag_neg {v : Int} (h : v < 0) : mag v = -v := if_pos h
theorem mag_nonneg (v : Int) : 0 ≤ mag v := by unfold mag; split <;> omega
theorem two_pos (j : Nat) : (0 : Int) < 2 ^ j := Int.pow_pos (by decide)
theorem halve (n : Int) (j : Nat) : n / 2 ^ (j + 1) = n / 2 ^ j / 2 := by
  rw [Int.pow_succ, ← Int.ediv_ediv_of_nonneg (Int.le_of_lt (two_pos j))]
theorem two_split (n : Int) (j : Nat) : n / 2 ^ j = 2 * (n / 2 ^ (j + 1)) + n / 2 ^ j % 2 := by
  rw [halve]; omega
theorem two_add (a b : Nat) : (2 : Int) ^ (a + b) = 2 ^ a * 2 ^ b := Int.pow_add 2 a b
theorem low_bit (A : Int) (j : Nat) (hj : j < 64) : A % 18446744073709551616 / 2 ^ j % 2 = A / 2 ^ j % 2 := by
  have e : (18446744073709551616 : Int) = 2 ^ j * (2 ^ (63 - j) * 2) := by
    rw [← Int.pow_succ, ← two_add, show j + (63 - j + 1) = 64 by omega]; rfl
  have h := Int.emod_add_mul_ediv A 18446744073709551616
  have k : A / 2 ^ j = A % 18446744073709551616 / 2 ^ j + 2 ^ (63 - j) * 2 * (A / 18446744073709551616) := by
    have h' : A = A % 18446744073709551616 + (2 ^ (63 - j) * 2 * (A / 18446744073709551616)) * 2 ^ j := by
      rw [Int.mul_comm _ ((2 : Int) ^ j), ← Int.mul_assoc ((2 : Int) ^ j), ← e]; exact h.symm
    conv => lhs; rw [h']
    rw [Int.add_mul_ediv_right _ _ (by have := two_pos j; omega)]
  rw [k, Int.mul_comm ((2 : Int) ^ (63 - j)) 2, Int.mul_assoc]
  omega
theorem high_bit (A : Int) (j : Nat) (hj : 64 ≤ j) : A / 18446744073709551616 / 2 ^ (j - 64) = A / 2 ^ j := by
  rw [Int.ediv_ediv_of_nonneg (by decide), show (18446744073709551616 : Int) = 2 ^ 64 by rfl, ← two_add, show 64 + (j - 64) = j by omega]
theorem set_high (Q : Int) (j : Nat) (hj : 64 ≤ j) (hj' : j < 128) (h0 : 0 ≤ Q) (h1 : Q < 340282366920938463463374607431768211456) (hd : Q % 2 ^ (j + 1) = 0) :
    Go.bits .or .u64 (Q / 18446744073709551616) (2 ^ (j - 64)) = (Q + 2 ^ j) / 18446744073709551616 ∧ Q % 18446744073709551616 = (Q + 2 ^ j) % 18446744073709551616 := by
  have e : (2 : Int) ^ j = 2 ^ (j - 64) * 18446744073709551616 := by
    rw [show (18446744073709551616 : Int) = 2 ^ 64 by rfl, ← two_add, show j - 64 + 64 = j by omega]
  have e1 : (2 : Int) ^ (j + 1) = 2 ^ (j - 64 + 1) * 18446744073709551616 := by
    rw [show (18446744073709551616 : Int) = 2 ^ 64 by rfl, ← two_add, show j - 64 + 1 + 64 = j + 1 by omega]
  obtain ⟨c, hc⟩ := Int.dvd_of_emod_eq_zero hd
  have q : Q / 18446744073709551616 = 2 ^ (j - 64 + 1) * c := by
    rw [hc, e1, Int.mul_assoc, Int.mul_comm 18446744073709551616, ← Int.mul_assoc, Int.mul_ediv_cancel _ (by decide)]
  rw [e, Int.add_mul_ediv_right _ _ (by decide), Int.add_mul_emod_self_right]
  refine ⟨or_bit _ _ (by omega) (by omega) (by omega) ?_, rfl⟩
  rw [q, Int.mul_emod_right]
theorem set_low (Q : Int) (j : Nat) (hj : j < 64) (h0 : 0 ≤ Q) (hd : Q % 2 ^ (j + 1) = 0) :
    Go.bits .or .u64 (Q % 18446744073709551616) (2 ^ j) = (Q + 2 ^ j) % 18446744073709551616 ∧ Q / 18446744073709551616 = (Q + 2 ^ j) / 18446744073709551616 := by
  have e : (18446744073709551616 : Int) = 2 ^ (j + 1) * 2 ^ (63 - j) := by
    rw [← two_add, show j + 1 + (63 - j) = 64 by omega]; rfl
  have hp := two_pos (j + 1)
  have hq := two_lt j
  have hr := two_pos j
  obtain ⟨c, hc⟩ := Int.dvd_of_emod_eq_zero hd
  have m : Q % 18446744073709551616 = 2 ^ (j + 1) * (c % 2 ^ (63 - j)) := by
    rw [hc, e, Int.mul_emod_mul_of_pos _ _ hp]
  have s := Int.emod_lt_of_pos c (two_pos (63 - j))
  have t : 2 ^ (j + 1) * (c % 2 ^ (63 - j) + 1) ≤ (18446744073709551616 : Int) := by
    rw [e]; exact Int.mul_le_mul_of_nonneg_left (by omega) (Int.le_of_lt hp)
  rw [Int.mul_add, Int.mul_one, ← m] at t
  have z : Q % 18446744073709551616 % 2 ^ (j + 1) = 0 := by rw [m, Int.mul_emod_right]
  rw [or_bit _ j hj (by omega) (by omega) z]
  omega
/-- The quotient so far. -/
theorem quo_next (A n : Int) (j : Nat) (hA : 0 ≤ A) (hn : 0 < n) (b : Int) (hb : b = A / 2 ^ j % 2) :
    (2 * (A / 2 ^ (j + 1) % n) + b < n → A / 2 ^ j % n = 2 * (A / 2 ^ (j + 1) % n) + b ∧ A / 2 ^ j / n * 2 ^ j = A / 2 ^ (j + 1) / n * 2 ^ (j + 1)) ∧
    (n ≤ 2 * (A / 2 ^ (j + 1) % n) + b → A / 2 ^ j % n = 2 * (A / 2 ^ (j + 1) % n) + b - n ∧ A / 2 ^ j / n * 2 ^ j = A / 2 ^ (j + 1) / n * 2 ^ (j + 1) + 2 ^ j) := by
  have hs := two_split A j
  rw [← hb] at hs
  have hb0 : b = 0 ∨ b = 1 := by omega
  have he := Int.emod_add_mul_ediv (A / 2 ^ (j + 1)) n
  have h0 := Int.emod_nonneg (A / 2 ^ (j + 1)) (show n ≠ 0 by omega)
  have h1 := Int.emod_lt_of_pos (A / 2 ^ (j + 1)) hn
  have hp : (2 : Int) ^ (j + 1) = 2 * 2 ^ j := by rw [Int.pow_succ, Int.mul_comm]
  generalize A / 2 ^ (j + 1) / n = q at *
  generalize A / 2 ^ (j + 1) % n = r at *
  generalize A / 2 ^ (j + 1) = P at *
  have hA2 : A / 2 ^ j = n * (2 * q) + (2 * r + b) := by
    have : n * (2 * q) = 2 * (n * q) := by rw [← Int.mul_assoc, Int.mul_comm n 2, Int.mul_assoc]
    omega
  constructor
  · intro hlt
    rw [hA2, Int.mul_add_emod_self_left, Int.add_comm (n * (2 * q)), Int.add_mul_ediv_left _ _ (by omega), Int.emod_eq_of_lt (by omega) hlt, Int.ediv_eq_zero_of_lt (by omega) hlt, hp]
    refine ⟨rfl, ?_⟩
    rw [Int.zero_add, Int.mul_comm 2 q, Int.mul_assoc]
  · intro hge
    have hA3 : A / 2 ^ j = n * (2 * q + 1) + (2 * r + b - n) := by rw [hA2, Int.mul_add]; omega
    rw [hA3, Int.mul_add_emod_self_left, Int.add_comm (n * (2 * q + 1)), Int.add_mul_ediv_left _ _ (by omega), Int.emod_eq_of_lt (by omega) (by omega), Int.ediv_eq_zero_of_lt (by omega) (by omega), hp]
    refine ⟨rfl, ?_⟩
    rw [Int.zero_add, Int.add_mul, Int.mul_comm 2 q, Int.mul_assoc, Int.one_mul]
/-- The quotient so far and the place of the next bit. -/
theorem quo_room (A n : Int) (j : Nat) (hA : 0 ≤ A) (hA' : A < 340282366920938463463374607431768211456) (hn : 0 < n) :
    0 ≤ A / 2 ^ (j + 1) / n * 2 ^ (j + 1) ∧ A / 2 ^ (j + 1) / n * 2 ^ (j + 1) < 340282366920938463463374607431768211456 ∧ A / 2 ^ (j + 1) / n * 2 ^ (j + 1) % 2 ^ (j + 1) = 0 := by
  have hp := two_pos (j + 1)
  have h0 : 0 ≤ A / 2 ^ (j + 1) := Int.ediv_nonneg hA (Int.le_of_lt hp)
  have h1 : A / 2 ^ (j + 1) / n ≤ A / 2 ^ (j + 1) := Int.ediv_le_self _ h0
  have h2 : A / 2 ^ (j + 1) / n * 2 ^ (j + 1) ≤ A / 2 ^ (j + 1) * 2 ^ (j + 1) := Int.mul_le_mul_of_nonneg_right h1 (Int.le_of_lt hp)
  have h3 : A / 2 ^ (j + 1) * 2 ^ (j + 1) ≤ A := Int.ediv_mul_le _ (by omega)
  have h4 : 0 ≤ A / 2 ^ (j + 1) / n := Int.ediv_nonneg h0 (Int.le_of_lt hn)
  exact ⟨Int.mul_nonneg h4 (Int.le_of_lt hp), by omega, Int.mul_emod_left _ _⟩
/-- The amount of a wide number. -/
theorem mag_lt (h l : Int) (hh : Hi h) (hl : U l) : mag (h * 18446744073709551616 + l) ≤ 170141183460469231731687303715884105728 := by
  unfold Hi U mag at *
  split <;> omega
theorem U_mod (x : Int) : U (x % 18446744073709551616) := by unfold U; omega
theorem U_div (x : Int) (h : 0 ≤ x) (h' : x < 340282366920938463463374607431768211456) : U (x / 18446744073709551616) := by unfold U; omega
theorem U_join (x : Int) : x / 18446744073709551616 * 18446744073709551616 + x % 18446744073709551616 = x := by omega
theorem tdiv_at (m : Nat) (h : m < 128) : wrap64 (Int.tdiv (m : Int) 64) = ((m / 64 : Nat) : Int) := by
  rw [Int.tdiv_eq_ediv_of_nonneg (by omega)]
  unfold wrap64
  omega
theorem tmod_at (m : Nat) : IntKind.u64.wrap (Int.tmod (m : Int) 64) = ((m % 64 : Nat) : Int) := by
  rw [Int.tmod_eq_emod_of_nonneg (by omega)]
  exact wraps_u64 _ (by omega) (by omega)
theorem bit_at (y : Int) (m : Nat) (h0 : 0 ≤ y) (h1 : y < 18446744073709551616) : Go.bits .and .u64 (shr .u64 y ((m % 64 : Nat) : Int)) 1 = y / 2 ^ (m % 64) % 2 := by
  have hz : 0 ≤ y / 2 ^ (m % 64) := Int.ediv_nonneg h0 (Int.le_of_lt (two_pos _))
  have hz' : y / 2 ^ (m % 64) ≤ y := Int.ediv_le_self _ h0
  rw [shr_at _ _ (by omega) (by omega), Int.toNat_natCast, and_one _ hz (by omega)]
theorem bit_high (A : Int) (m : Nat) (hA : 0 ≤ A) (hA' : A < 340282366920938463463374607431768211456) (h : 64 ≤ m) (h' : m < 128) : Go.bits .and .u64 (shr .u64 (A / 18446744073709551616) ((m % 64 : Nat) : Int)) 1 = A / 2 ^ m % 2 := by
  rw [bit_at _ _ (by omega) (by omega), show m % 64 = m - 64 by omega, high_bit A m h]
theorem bit_low (A : Int) (m : Nat) (h : m < 64) : Go.bits .and .u64 (shr .u64 (A % 18446744073709551616) ((m % 64 : Nat) : Int)) 1 = A / 2 ^ m % 2 := by
  rw [bit_at _ _ (by omega) (by omega), show m % 64 = m by omega, low_bit A m h]
theorem Hi_neg (h l : Int) (hl : U l) : decide (h < 0) = decide (h * 18446744073709551616 + l < 0) := by
  unfold U at hl; exact decide_eq_decide.2 (by omega)
theorem tdiv_mag (v w : Int) (hw : w ≠ 0) : Int.tdiv v w = (if ((decide (v < 0)) != (decide (w < 0))) = true then -(mag v / mag w) else mag v / mag w) ∧ Int.tmod v w = (if decide (v < 0) = true then -(mag v % mag w) else mag v % mag w) := by
  unfold mag
  by_cases c : v < 0 <;> by_cases d : w < 0 <;> simp only [c, d, decide_true, decide_false, if_true, if_false, bne_self_eq_false, Bool.false_eq_true, Bool.true_bne, Bool.not_false, Bool.false_bne, bne_iff_ne, ne_eq, not_false_eq_true, reduceCtorEq]
  · obtain ⟨a, rfl⟩ : ∃ a, v = -a := ⟨-v, by omega⟩
    obtain ⟨b, rfl⟩ : ∃ b, w = -b := ⟨-w, by omega⟩
    rw [Int.neg_tdiv, Int.tdiv_neg, Int.neg_neg, Int.neg_tmod, Int.tmod_neg, Int.neg_neg, Int.neg_neg, Int.tdiv_eq_ediv_of_nonneg (by omega), Int.tmod_eq_emod_of_nonneg (by omega)]
    exact ⟨rfl, rfl⟩
  · obtain ⟨a, rfl⟩ : ∃ a, v = -a := ⟨-v, by omega⟩
    rw [Int.neg_tdiv, Int.neg_tmod, Int.neg_neg, Int.tdiv_eq_ediv_of_nonneg (by omega), Int.tmod_eq_emod_of_nonneg (by omega)]
    exact ⟨rfl, rfl⟩
  · obtain ⟨b, rfl⟩ : ∃ b, w = -b := ⟨-w, by omega⟩
    rw [Int.tdiv_neg, Int.tmod_neg, Int.neg_neg, Int.tdiv_eq_ediv_of_nonneg (by omega), Int.tmod_eq_emod_of_nonneg (by omega)]
    exact ⟨rfl, rfl⟩
  · rw [Int.tdiv_eq_ediv_of_nonneg (by omega), Int.tmod_eq_emod_of_nonneg (by omega)]
    exact ⟨rfl, rfl⟩
theorem round_quo (v t : Int) (ht : 1 ≤ t) : Int.tdiv v t = (if v < 0 then -(mag v / t) else mag v / t) ∧ Int.tmod v t = (if v < 0 then -(mag v % t) else mag v % t) := by
  obtain ⟨a, b⟩ := tdiv_mag v t (by omega)
  rw [show mag t = t from mag_pos (by omega)] at a b
  rw [show decide (t < 0) = false from decide_eq_false (by omega), Bool.bne_false] at a
  simp only [decide_eq_true_eq] at a b
  exact ⟨a, b⟩
/-- A text of a list of bytes. -/
def bs (l : List UInt8) : ByteArray := ⟨l.toArray⟩
theorem bs_size (l : List UInt8) : (bs l).size = l.length := by simp [bs, ByteArray.size]
theorem bs_app (a b : List UInt8) : bs a ++ bs b = bs (a ++ b) := by
  apply ByteArray.ext; simp [bs]
/-- The digit of a number below ten. -/
def dig (u : Nat) : UInt8 := UInt8.ofNat (48 + u)
theorem dec_small {u : Nat} (h : u < 10) : Lib.decDigits u = [dig u] := by rw [Lib.decDigits, dif_pos h]; rfl
theorem dec_big {u : Nat} (h : ¬ u < 10) : Lib.decDigits u = Lib.decDigits (u / 10) ++ [dig (u % 10)] := by rw [Lib.decDigits, dif_neg h]; rfl
theorem dec_len {u k : Nat} (h : u < 10 ^ (k + 1)) : (Lib.decDigits u).length ≤ k + 1 := by
  induction k generalizing u with
  | zero => rw [dec_small (by simpa using h)]; simp
  | succ k ih =>
    by_cases c : u < 10
    · rw [dec_small c]; simp
    · rw [dec_big c, List.length_append]
      have := ih (u := u / 10) (by rw [Nat.pow_succ] at h; omega)
      simp; omega
theorem dec_pos (u : Nat) : 1 ≤ (Lib.decDigits u).length := by rw [Lib.decDigits_length]; exact Lib.nDigits_pos u
/-- A numeral with 0 ahead, k digits in all. -/
def pad (k b : Nat) : List UInt8 := List.replicate (k - (Lib.decDigits b).length) 48 ++ Lib.decDigits b
theorem pad_one {b : Nat} (h : b < 10) : pad 1 b = [dig b] := by unfold pad; rw [dec_small h]; rfl
theorem pad_succ (k b : Nat) (hk : 1 ≤ k) (h : b < 10 ^ (k + 1)) : pad (k + 1) b = pad k (b / 10) ++ [dig (b % 10)] := by
  unfold pad
  by_cases c : b < 10
  · rw [dec_small c, show b / 10 = 0 by omega, show b % 10 = b by omega, dec_small (by decide)]
    simp only [List.length_singleton]
    rw [show k + 1 - 1 = (k - 1) + 1 by omega, List.replicate_succ', List.append_assoc, List.append_assoc]
    rfl
  · have hl := dec_pos (b / 10)
    rw [dec_big c, List.length_append, List.append_assoc]
    simp only [List.length_singleton]
    rw [show k + 1 - ((Lib.decDigits (b / 10)).length + 1) = k - (Lib.decDigits (b / 10)).length by omega]
theorem dec_split (a k b : Nat) (ha : 0 < a) (hk : 1 ≤ k) (h : b < 10 ^ k) : Lib.decDigits (a * 10 ^ k + b) = Lib.decDigits a ++ pad k b := by
  obtain ⟨k, rfl⟩ : ∃ j, k = j + 1 := ⟨k - 1, by omega⟩
  induction k generalizing b with
  | zero =>
    have h : b < 10 := by simpa using h
    simp only [Nat.zero_add, Nat.pow_one]
    rw [dec_big (by omega), show (a * 10 + b) / 10 = a by omega, show (a * 10 + b) % 10 = b by omega, pad_one h]
  | succ k ih =>
    have hp : 1 ≤ 10 ^ (k + 1) := Nat.one_le_pow _ _ (by decide)
    have hm : a * 10 ^ (k + 1) ≥ 10 ^ (k + 1) := Nat.le_mul_of_pos_left _ ha
    have e : a * 10 ^ (k + 1 + 1) = (a * 10 ^ (k + 1)) * 10 := by rw [Nat.pow_succ, Nat.mul_assoc]
    rw [pad_succ (k + 1) b (by omega) h, ← List.append_assoc, ← ih (b / 10) (by omega) (by rw [Nat.pow_succ] at h; omega), e]
    have hb : 10 ≤ 10 ^ (k + 1) := by rw [Nat.pow_succ]; have : 1 ≤ 10 ^ k := Nat.one_le_pow _ _ (by decide); omega
    rw [dec_big (by omega), show (a * 10 ^ (k + 1) * 10 + b) / 10 = a * 10 ^ (k + 1) + b / 10 by omega, show (a * 10 ^ (k + 1) * 10 + b) % 10 = b % 10 by omega]
theorem repeat_zero (n : Nat) : Lib.repeatL [48] n = List.replicate n 48 := by
  have := Lib.repeatL_replicate 48 1 n
  simpa using this
theorem dig_toNat {u : Nat} (h : u < 10) : (dig u).toNat = 48 + u := by
  unfold dig; rw [UInt8.toNat_ofNat']; omega
/-- No 0 ahead, but for 0 itself. -/
theorem dec_head (u : Nat) (h : 0 < u) : ∃ c l, Lib.decDigits u = c :: l ∧ 49 ≤ c.toNat := by
  induction u using Nat.strongRecOn with
  | ind u ih =>
    by_cases c : u < 10
    · exact ⟨dig u, [], dec_small c, by rw [dig_toNat c]; omega⟩
    · obtain ⟨x, l, e, hx⟩ := ih (u / 10) (by omega) (by omega)
      exact ⟨x, l ++ [dig (u % 10)], by rw [dec_big c, e]; rfl, hx⟩
theorem bs_extract (l : List UInt8) (i j : Nat) : (bs l).extract i j = bs ((l.drop i).take (j - i)) := by
  exact ByteArray.extract_mk l i j
theorem bt_bs (l : List UInt8) (i : Nat) (h : i < l.length) : bt (bs l) (i : Int) = (l[i].toNat : Int) := by
  have h' : i < (bs l).size := by rw [bs_size]; exact h
  have e := bt_at (bs l) (i : Int) (by rw [Int.toNat_natCast]; exact h')
  rw [← e]
  congr 1
/-- The zeros at the end struck. -/
def stripz (l : List UInt8) : List UInt8 := (l.reverse.dropWhile (fun c => decide (c = 48))).reverse
theorem stripz_snoc (a : List UInt8) (c : UInt8) : stripz (a ++ [c]) = if c = 48 then stripz a else a ++ [c] := by
  unfold stripz
  rw [List.reverse_append, List.reverse_singleton, List.singleton_append, List.dropWhile_cons]
  by_cases h : c = 48
  · rw [if_pos h, if_pos (decide_eq_true h)]
  · rw [if_neg h, if_neg (by simpa using h)]; simp
theorem snoc_of {l : List UInt8} (h : l ≠ []) : ∃ a c, l = a ++ [c] := ⟨l.dropLast, l.getLast h, (List.dropLast_concat_getLast h).symm⟩
theorem stripz_some {l : List UInt8} (h : ∃ c ∈ l, c ≠ 48) : stripz l ≠ [] := by
  obtain ⟨n, hn⟩ : ∃ n, l.length = n := ⟨_, rfl⟩
  induction n generalizing l with
  | zero => obtain rfl := List.length_eq_zero_iff.1 hn; simp at h
  | succ n ih =>
    obtain ⟨a, c, rfl⟩ := snoc_of (l := l) (by intro e; subst e; simp at hn)
    rw [stripz_snoc]
    by_cases hc : c = 48
    · rw [if_pos hc]
      refine ih ?_ (by simpa using hn)
      obtain ⟨x, hx, hx'⟩ := h
      rcases List.mem_append.1 hx with g | g
      · exact ⟨x, g, hx'⟩
      · simp at g; subst g; exact absurd hc hx'
    · rw [if_neg hc]; simp
theorem pad_len {k b : Nat} (hk : 1 ≤ k) (h : b < 10 ^ k) : (pad k b).length = k := by
  have : (Lib.decDigits b).length ≤ k := by
    obtain ⟨j, rfl⟩ : ∃ j, k = j + 1 := ⟨k - 1, by omega⟩
    exact dec_len h
  unfold pad
  rw [List.length_append, List.length_replicate]; omega
theorem pad_some (k b : Nat) (hb : 0 < b) : ∃ c ∈ pad k b, c ≠ 48 := by
  obtain ⟨c, t, e, hc⟩ := dec_head b hb
  refine ⟨c, ?_, ?_⟩
  · unfold pad; rw [e]; simp
  · intro h; subst h; exact absurd hc (by decide)
theorem stripz_zero : stripz (pad 6 0) = [] := by
  unfold pad
  rw [dec_small (by decide)]
  decide
/-- What stands behind the point. -/
def frac (r : Nat) : List UInt8 := if r = 0 then [] else 46 :: stripz (pad 6 r)
theorem frac_is (r : Nat) : (if stripz (pad 6 r) = [] then [] else 46 :: stripz (pad 6 r)) = frac r := by
  unfold frac
  by_cases h : r = 0
  · subst h; rw [if_pos stripz_zero, if_pos rfl]
  · rw [if_neg h, if_neg (stripz_some (pad_some 6 r (by omega)))]
/-- A number of millionths as a text. -/
def showW (v : Int) : List UInt8 := (if v < 0 then [45] else []) ++ (Lib.decDigits (v.natAbs / 1000000) ++ frac (v.natAbs % 1000000))
/-- Seven digits at least: the whole part and six. -/
theorem pad_seven (m : Nat) : pad 7 m = Lib.decDigits (m / 1000000) ++ pad 6 (m % 1000000) := by
  by_cases h : m < 1000000
  · rw [show m / 1000000 = 0 by omega, show m % 1000000 = m by omega, dec_small (by decide)]
    have : (Lib.decDigits m).length ≤ 6 := dec_len (k := 5) (by simpa using h)
    unfold pad
    rw [show 7 - (Lib.decDigits m).length = (6 - (Lib.decDigits m).length) + 1 by omega, List.replicate_succ]
    rfl
  · have e := dec_split (m / 1000000) 6 (m % 1000000) (by omega) (by decide) (by simp; omega)
    rw [show m / 1000000 * 10 ^ 6 + m % 1000000 = m by simp; omega] at e
    rw [← e]
    unfold pad
    have : 10 ^ 6 ≤ m := by simp; omega
    have l7 : 7 ≤ (Lib.decDigits m).length := by
      rw [Lib.decDigits_length]
      rcases Nat.lt_or_ge (Lib.nDigits m) 7 with g | g
      · have := Lib.lt_pow_nDigits m
        have h2 : 10 ^ Lib.nDigits m ≤ 10 ^ 6 := Nat.pow_le_pow_right (by decide) (by omega)
        omega
      · exact g
    rw [show 7 - (Lib.decDigits m).length = 0 by omega]; rfl
theorem subHi_is (x y c : Int) (hx : U x) (hy : U y) (hc : 0 ≤ c) (hc' : c ≤ 1) : subHi x y c = if x < y + c then 1 else 0 := by
  unfold U at *
  unfold subHi
  by_cases h : x < y + c
  · rw [if_pos h, if_pos (by omega)]; rfl
  · rw [if_neg h, if_neg (by omega)]; rfl
theorem subHi_le (x y c : Int) : subHi x y c ≤ 1 := by unfold subHi; split <;> decide
theorem subHi_ge (x y c : Int) : 0 ≤ subHi x y c := by unfold subHi; split <;> decide
theorem subLo_is (x y c : Int) (hx : U x) (hy : U y) (hc : 0 ≤ c) (hc' : c ≤ 1) : subLo x y c = (x - y - c) % 18446744073709551616 := by
  unfold U at *
  unfold subLo
  omega
theorem amount_is (h l : Int) (hh : Hi h) (hl : U l) : wide_amount.f h l = some (mag (h * 18446744073709551616 + l) % 18446744073709551616, mag (h * 18446744073709551616 + l) / 18446744073709551616) := by
  unfold wide_amount.f
  by_cases c : h ≥ 0
  · unfold Hi U at *
    rw [if_pos c, mag_pos (by omega), wrap_u64]
    exact pair2 (by omega) (by omega)
  · have z : U 0 := by unfold U; omega
    have hw : U (h % 18446744073709551616) := by unfold U; omega
    rw [if_neg c, if_pos (subHi_le _ _ _), wrap_u64, subLo_is _ _ _ z hl (by omega) (by omega), subLo_is _ _ _ z hw (subHi_ge _ _ _) (subHi_le _ _ _), subHi_is _ _ _ z hl (by omega) (by omega)]
    unfold Hi U at *
    rw [mag_neg (by omega)]
    by_cases d : l = 0
    · rw [if_neg (by omega)]
      exact pair2 (by omega) (by omega)
    · rw [if_pos (by omega)]
      exact pair2 (by omega) (by omega)
/-- The wide number of an amount with a sign; 10: there is none. -/
def wsigned (M : Int) (b : Bool) : Int × Int × Int :=
  if M > 170141183460469231731687303715884105728 ∨ M = 170141183460469231731687303715884105728 ∧ b = false then (0, 0, 10) else ((if b = true then -M else M) / 18446744073709551616, (if b = true then -M else M) % 18446744073709551616, 0)
theorem signed_at (k : Nat) (l h : Int) (b : Bool) (hl : U l) (hh : U h) : wide_signed.f (k + 1) l h b = some (wsigned (h * 18446744073709551616 + l) b) := by
  have z : U 0 := by unfold U; omega
  unfold wide_signed.f wsigned
  simp only [wide_signed.j0]
  rw [if_pos (subHi_le _ _ _), subLo_is _ _ _ z hl (by omega) (by omega), subLo_is _ _ _ z hh (subHi_ge _ _ _) (subHi_le _ _ _), subHi_is _ _ _ z hl (by omega) (by omega)]
  unfold U at *
  cases b <;> simp only [Bool.false_eq_true, if_false, if_true, reduceCtorEq, and_false, and_true, or_false, wrap64, decide_eq_true_eq]
  all_goals
    repeat' split
    all_goals first | rfl | (exfalso; omega) | exact trip (by omega) (by omega) rfl
/-- The wide number x and 0, or 10. -/
def wenc (x : Int) : Int × Int × Int := if -170141183460469231731687303715884105728 ≤ x ∧ x < 170141183460469231731687303715884105728 then (x / 18446744073709551616, x % 18446744073709551616, 0) else (0, 0, 10)
theorem wenc_in {x : Int} (h : -170141183460469231731687303715884105728 ≤ x ∧ x < 170141183460469231731687303715884105728) : wenc x = (x / 18446744073709551616, x % 18446744073709551616, 0) := if_pos h
theorem wenc_out {x : Int} (h : ¬ (-170141183460469231731687303715884105728 ≤ x ∧ x < 170141183460469231731687303715884105728)) : wenc x = (0, 0, 10) := if_neg h
theorem wsigned_enc (M : Int) (b : Bool) (hM : 0 ≤ M) : wsigned M b = wenc (if b = true then -M else M) := by
  unfold wsigned wenc
  cases b <;> simp only [Bool.false_eq_true, if_false, if_true, reduceCtorEq, and_false, and_true, or_false]
  · by_cases c : M > 170141183460469231731687303715884105728 ∨ M = 170141183460469231731687303715884105728
    · rw [if_pos c, if_neg (by omega)]
    · rw [if_neg c, if_pos (by omega)]
  · by_cases c : M > 170141183460469231731687303715884105728
    · rw [if_pos c, if_neg (by omega)]
    · rw [if_neg c, if_pos (by omega)]
/-- What is left, doubled, with the next bit: its limbs. -/
theorem twice_limbs (r b : Int) (h0 : 0 ≤ r) (h1 : r < 340282366920938463463374607431768211456) (hb : b = 0 ∨ b = 1) :
    Go.bits .or .u64 (IntKind.u64.wrap (r % 18446744073709551616 * 2)) b = (2 * r + b) % 18446744073709551616 ∧
    Go.bits .or .u64 (IntKind.u64.wrap (r / 18446744073709551616 * 2)) (r % 18446744073709551616 / 9223372036854775808) = (2 * r + b) % 340282366920938463463374607431768211456 / 18446744073709551616 ∧
    r / 18446744073709551616 / 9223372036854775808 = (2 * r + b) / 340282366920938463463374607431768211456 := by
  rw [wrap_u64, wrap_u64, or_one _ _ (by omega) (by omega) (by omega) (by omega) (by omega), or_one _ _ (by omega) (by omega) (by omega) (by omega) (by omega)]
  omega
theorem less_limbs (s n : Int) (hn : 0 < n) (hn' : n < 340282366920938463463374607431768211456) (h : n ≤ s) (h' : s < 2 * n) :
    subLo (s % 18446744073709551616) (n % 18446744073709551616) 0 = (s - n) % 18446744073709551616 ∧
    subLo (s % 340282366920938463463374607431768211456 / 18446744073709551616) (n / 18446744073709551616) (subHi (s % 18446744073709551616) (n % 18446744073709551616) 0) = (s - n) / 18446744073709551616 := by
  have u0 := U_mod s
  have u1 := U_div (s % 340282366920938463463374607431768211456) (by omega) (by omega)
  have v0 := U_mod n
  have v1 := U_div n (by omega) hn'
  rw [subLo_is _ _ _ u0 v0 (by omega) (by omega), subLo_is _ _ _ u1 v1 (subHi_ge _ _ _) (subHi_le _ _ _), subHi_is _ _ _ u0 v0 (by omega) (by omega)]
  clear u0 u1 v0 v1
  refine ⟨by omega, ?_⟩
  split <;> omega
/-- The three tests of a round, as one. -/
theorem above_limbs (s n : Int) (h0 : 0 ≤ s) (h1 : s < 680564733841876926926749214863536422912) (hn : 0 < n) (hn' : n < 340282366920938463463374607431768211456) :
    (s / 340282366920938463463374607431768211456 = 1 → n ≤ s) ∧
    (¬ s / 340282366920938463463374607431768211456 = 1 → s % 340282366920938463463374607431768211456 / 18446744073709551616 > n / 18446744073709551616 → n ≤ s) ∧
    (¬ s / 340282366920938463463374607431768211456 = 1 → s % 340282366920938463463374607431768211456 / 18446744073709551616 = n / 18446744073709551616 → (s % 18446744073709551616 ≥ n % 18446744073709551616 ↔ n ≤ s)) ∧
    (¬ s / 340282366920938463463374607431768211456 = 1 → ¬ s % 340282366920938463463374607431768211456 / 18446744073709551616 > n / 18446744073709551616 → ¬ s % 340282366920938463463374607431768211456 / 18446744073709551616 = n / 18446744073709551616 → ¬ n ≤ s) := by
  refine ⟨fun _ => by omega, fun _ _ => by omega, fun _ _ => by omega, fun _ _ _ => by omega⟩
/-- The second half of a round of divided. -/
theorem divided_second (k : Nat) (A n r b : Int) (m : Nat) (R : Int × Int × Int × Int) (hm : m < 128) (hA : 0 ≤ A) (hA' : A < 340282366920938463463374607431768211456) (hn : 0 < n) (hn' : n < 340282366920938463463374607431768211456)
    (hb : b = A / 2 ^ m % 2) (hr : r = A / 2 ^ (m + 1) % n)
    (hK : wide_divided.l0 k ((m : Int) - 1) (A % 18446744073709551616) (A / 18446744073709551616) (n % 18446744073709551616) (n / 18446744073709551616)
      (A / 2 ^ m / n * 2 ^ m % 18446744073709551616) (A / 2 ^ m / n * 2 ^ m / 18446744073709551616) (A / 2 ^ m % n % 18446744073709551616) (A / 2 ^ m % n / 18446744073709551616) = some R) (c : Bool) (hc : c = decide (n ≤ 2 * r + b)) :
    wide_divided.j1 (k + 1) (m : Int) c (A % 18446744073709551616) (A / 18446744073709551616) (n % 18446744073709551616) (n / 18446744073709551616)
      (A / 2 ^ (m + 1) / n * 2 ^ (m + 1) % 18446744073709551616) (A / 2 ^ (m + 1) / n * 2 ^ (m + 1) / 18446744073709551616) ((2 * r + b) % 18446744073709551616) ((2 * r + b) % 340282366920938463463374607431768211456 / 18446744073709551616) = some R := by
  have hr0 := Int.emod_nonneg (A / 2 ^ (m + 1)) (show n ≠ 0 by omega)
  have hr1 := Int.emod_lt_of_pos (A / 2 ^ (m + 1)) hn
  obtain ⟨q0, q1, qd⟩ := quo_room A n m hA hA' hn
  obtain ⟨nl, ng⟩ := quo_next A n m hA hn b hb
  rw [← hr] at hr0 hr1 nl ng
  have hb0 : b = 0 ∨ b = 1 := by rw [hb]; omega
  have hnext : wrap64 ((m : Int) - 1) = (m : Int) - 1 := by clear hK; unfold wrap64; omega
  simp only [wide_divided.j1]
  by_cases g : n ≤ 2 * r + b
  · obtain ⟨e2, e3⟩ := ng g
    obtain ⟨lo, hi'⟩ := less_limbs (2 * r + b) n hn hn' g (by omega)
    rw [hc, decide_eq_true g, if_pos rfl, if_pos (subHi_le _ _ _), lo, hi', tdiv_at m hm, tmod_at, hnext, shl_one _ (by omega) (by omega), Int.toNat_natCast, ← e2]
    by_cases c6 : 64 ≤ m
    · obtain ⟨s1, s2⟩ := set_high _ m c6 hm q0 q1 qd
      rw [if_neg (by omega), if_pos (by omega), if_pos (by omega), show m % 64 = m - 64 by omega, s1, s2, ← e3]
      exact hK
    · obtain ⟨s1, s2⟩ := set_low _ m (by omega) q0 qd
      rw [if_pos (by omega), if_pos (by omega), show m % 64 = m by omega, s1, s2, ← e3]
      exact hK
  · obtain ⟨e2, e3⟩ := nl (by omega)
    have hlt : 2 * r + b < n := by omega
    rw [hc, decide_eq_false g, if_neg (by decide), hnext, ← e2, ← e3, Int.emod_eq_of_lt (a := A / 2 ^ m % n) (b := 340282366920938463463374607431768211456) (by rw [e2]; omega) (by rw [e2]; omega)]
    exact hK
theorem j2_is_j1 (k : Nat) (x8 : Int) (x64 : Bool) (a0 a1 b0 b1 c0 c1 d0 d1 : Int) : wide_divided.j2 (k + 1) x8 x64 a0 a1 b0 b1 c0 c1 d0 d1 = wide_divided.j1 (k + 1) x8 x64 a0 a1 b0 b1 c0 c1 d0 d1 := by
  simp only [wide_divided.j1, wide_divided.j2]
/-- divided, from the round of bit m - 1 on: the limbs of A, of n; of the quotient so far and of what is left so far. -/
theorem divided_from (A n : Int) (hA : 0 ≤ A) (hA' : A < 340282366920938463463374607431768211456) (hn : 0 < n) (hn' : n < 340282366920938463463374607431768211456) (m : Nat) : m ≤ 128 →
    Ev (fun k => wide_divided.l0 k ((m : Int) - 1) (A % 18446744073709551616) (A / 18446744073709551616) (n % 18446744073709551616) (n / 18446744073709551616)
      (A / 2 ^ m / n * 2 ^ m % 18446744073709551616) (A / 2 ^ m / n * 2 ^ m / 18446744073709551616) (A / 2 ^ m % n % 18446744073709551616) (A / 2 ^ m % n / 18446744073709551616))
      (A / n % 18446744073709551616, A / n / 18446744073709551616, A % n % 18446744073709551616, A % n / 18446744073709551616) := by
  induction m with
  | zero =>
    intro _
    refine ⟨1, fun k hk => ?_⟩
    obtain ⟨k, rfl⟩ : ∃ j, k = j + 1 := ⟨k - 1, by omega⟩
    simp only [wide_divided.l0]
    rw [if_neg (by decide), Int.pow_zero, Int.ediv_one, Int.mul_one]
  | succ m ih =>
    intro hm
    obtain ⟨K, hK⟩ := ih (by omega)
    refine ⟨K + 2, fun k hk => ?_⟩
    obtain ⟨k, rfl⟩ : ∃ j, k = j + 2 := ⟨k - 2, by omega⟩
    have hi : (((m + 1 : Nat) : Int) - 1) = m := by omega
    have sec := divided_second k A n _ _ m _ (by omega) hA hA' hn hn' rfl rfl (hK k (by omega))
    have hr0 := Int.emod_nonneg (A / 2 ^ (m + 1)) (show n ≠ 0 by omega)
    have hr1 := Int.emod_lt_of_pos (A / 2 ^ (m + 1)) hn
    have hb : A / 2 ^ m % 2 = 0 ∨ A / 2 ^ m % 2 = 1 := by clear sec hr0 hr1; omega
    obtain ⟨l1, l2, l3⟩ := twice_limbs (A / 2 ^ (m + 1) % n) (A / 2 ^ m % 2) hr0 (Int.lt_trans hr1 hn') hb
    obtain ⟨t1, t2, t3, t4⟩ := above_limbs (2 * (A / 2 ^ (m + 1) % n) + A / 2 ^ m % 2) n (by clear sec l1 l2 l3; omega) (by clear sec l1 l2 l3; omega) hn hn'
    clear hK ih
    show wide_divided.l0 (k + 2) _ _ _ _ _ _ _ _ _ = _
    simp only [wide_divided.l0]
    rw [hi, if_pos (by clear sec l1 l2 l3 t1 t2 t3 t4; omega), tdiv_at m (by omega), tmod_at]
    by_cases c6 : 64 ≤ m
    · rw [if_neg (by clear sec l1 l2 l3 t1 t2 t3 t4; omega), if_pos (by clear sec l1 l2 l3 t1 t2 t3 t4; omega), if_pos (by clear sec l1 l2 l3 t1 t2 t3 t4; omega), bit_high A m hA hA' c6 (by omega), l1, l2, l3]
      simp only [j2_is_j1]
      split
      · exact sec _ (decide_eq_true (t1 ‹_›)).symm
      · split
        · exact sec _ (decide_eq_true (t2 ‹_› ‹_›)).symm
        · split
          · exact sec _ (decide_eq_decide.2 (t3 ‹_› ‹_›))
          · exact sec _ (decide_eq_false (t4 ‹_› ‹_› ‹_›)).symm
    · rw [if_pos (by clear sec l1 l2 l3 t1 t2 t3 t4; omega), if_pos (by clear sec l1 l2 l3 t1 t2 t3 t4; omega), bit_low A m (by omega), l1, l2, l3]
      split
      · exact sec _ (decide_eq_true (t1 ‹_›)).symm
      · split
        · exact sec _ (decide_eq_true (t2 ‹_› ‹_›)).symm
        · split
          · exact sec _ (decide_eq_decide.2 (t3 ‹_› ‹_›))
          · exact sec _ (decide_eq_false (t4 ‹_› ‹_› ‹_›)).symm
theorem divided_is (A n : Int) (hA : 0 ≤ A) (hA' : A < 340282366920938463463374607431768211456) (hn : 0 < n) (hn' : n < 340282366920938463463374607431768211456) :
    Ev (fun k => wide_divided.f k (A % 18446744073709551616) (A / 18446744073709551616) (n % 18446744073709551616) (n / 18446744073709551616))
      (A / n % 18446744073709551616, A / n / 18446744073709551616, A % n % 18446744073709551616, A % n / 18446744073709551616) := by
  have e := divided_from A n hA hA' hn hn' 128 (by omega)
  have z : A / 2 ^ 128 = 0 := by
    rw [show (2 : Int) ^ 128 = 340282366920938463463374607431768211456 by decide]; omega
  rw [z] at e
  simp only [Int.zero_emod, Int.zero_ediv, Int.zero_mul] at e
  exact e
theorem fmt_is (u : Int) (hu : U u) : strconv_FormatUint.f u 10 = some (bs (Lib.decDigits u.toNat)) := by
  unfold strconv_FormatUint.f
  rw [if_pos ⟨hu.1, hu.2, rfl⟩]; rfl
theorem rep_is (n : Nat) (hn : n ≤ 1000) : strings_Repeat.f (⟨#[48]⟩ : ByteArray) (n : Int) = some (bs (List.replicate n 48)) := by
  unfold strings_Repeat.f
  rw [if_pos ⟨by omega, by omega, by decide⟩, Int.toNat_natCast, show (⟨#[48]⟩ : ByteArray).data.toList = [48] from rfl, repeat_zero]; rfl
def sgn (h : Int) : List UInt8 := if h < 0 then [45] else []
theorem minus_is (s : List UInt8) : (⟨#[45]⟩ : ByteArray) ++ bs s = bs (45 :: s) := bs_app [45] s
theorem WPrint_from (h l : Int) (j : Nat) : ∀ (M : Int) (s : List UInt8), 0 ≤ M → M < 340282366920938463463374607431768211456 → M < 10 ^ (19 * j) → s.length + 19 * j ≤ 1000 →
    Ev (fun k => wide_Print.l0 k (bs s) h l (M % 18446744073709551616) (M / 18446744073709551616)) (bs (sgn h ++ (Lib.decDigits M.toNat ++ s))) := by
  induction j with
  | zero =>
    intro M s h0 h1 h2 h3
    have : M = 0 := by simp at h2; omega
    subst this
    obtain ⟨K, hK⟩ := divided_is 0 10000000000000000000 (by omega) (by omega) (by omega) (by omega)
    refine ⟨K + 1, fun k hk => ?_⟩
    obtain ⟨k, rfl⟩ : ∃ j, k = j + 1 := ⟨k - 1, by omega⟩
    have e := hK k (by omega)
    simp only [show (10000000000000000000 : Int) % 18446744073709551616 = 10000000000000000000 by decide, show (10000000000000000000 : Int) / 18446744073709551616 = 0 by decide, show (0 : Int) / 10000000000000000000 = 0 by decide, show (0 : Int) % 10000000000000000000 = 0 by decide, show (0 : Int) / 18446744073709551616 = 0 by decide, show (0 : Int) % 18446744073709551616 = 0 by decide] at e
    simp only [wide_Print.l0, show (0 : Int) / 18446744073709551616 = 0 by decide, show (0 : Int) % 18446744073709551616 = 0 by decide, e, Option.bind_some]
    rw [fmt_is 0 (by unfold U; omega)]
    simp only [Option.bind_some, if_true]
    rw [bs_app, bs_size, bs_size, bs_size]
    have hl : (Lib.decDigits (0 : Int).toNat).length ≤ 1 := dec_len (k := 0) (by decide)
    rw [if_pos (by omega), minus_is]
    unfold sgn
    by_cases c : h < 0
    · rw [if_pos c, if_pos (by rw [List.length_append]; omega), if_pos c]; rfl
    · rw [if_neg c, if_neg c]; rfl
  | succ j ih =>
    intro M s h0 h1 h2 h3
    obtain ⟨K, hK⟩ := divided_is M 10000000000000000000 h0 h1 (by omega) (by omega)
    simp only [show (10000000000000000000 : Int) % 18446744073709551616 = 10000000000000000000 by decide, show (10000000000000000000 : Int) / 18446744073709551616 = 0 by decide] at hK
    have er : M % 10000000000000000000 % 18446744073709551616 = M % 10000000000000000000 := by omega
    have ur : U (M % 10000000000000000000) := by unfold U; omega
    have hl : (Lib.decDigits (M % 10000000000000000000).toNat).length ≤ 19 := dec_len (k := 18) (by
      rw [show (10 : Nat) ^ (18 + 1) = 10000000000000000000 by decide]; omega)
    have hp := dec_pos (M % 10000000000000000000).toNat
    have ew : wrap64 (19 - ((Lib.decDigits (M % 10000000000000000000).toNat).length : Int)) = ((19 - (Lib.decDigits (M % 10000000000000000000).toNat).length : Nat) : Int) := by unfold wrap64; omega
    by_cases c : M / 10000000000000000000 = 0
    · refine ⟨K + 1, fun k hk => ?_⟩
      obtain ⟨k, rfl⟩ : ∃ j, k = j + 1 := ⟨k - 1, by omega⟩
      have e := hK k (by omega)
      have eM : M % 10000000000000000000 = M := by omega
      rw [eM] at hl hp ur
      simp only [c, show (0 : Int) / 18446744073709551616 = 0 by decide, show (0 : Int) % 18446744073709551616 = 0 by decide, er, eM] at e
      simp only [wide_Print.l0, e, Option.bind_some]
      rw [show M % 18446744073709551616 = M by unfold U at ur; omega, fmt_is M ur]
      simp only [Option.bind_some, if_true]
      rw [bs_app, bs_size, bs_size, bs_size, if_pos (by omega), minus_is]
      unfold sgn
      by_cases c : h < 0
      · rw [if_pos c, if_pos (by rw [List.length_append]; omega), if_pos c]; rfl
      · rw [if_neg c, if_neg c]; rfl
    · have q0 : 0 < M / 10000000000000000000 := by omega
      obtain ⟨K', hK'⟩ := ih (M / 10000000000000000000) (pad 19 (M % 10000000000000000000).toNat ++ s) (by omega) (by omega) (by
          rw [show 19 * (j + 1) = 19 * j + 19 by omega, Int.pow_add, show (10 : Int) ^ 19 = 10000000000000000000 by decide] at h2
          exact Int.ediv_lt_of_lt_mul (by decide) h2) (by
          unfold pad
          rw [List.length_append, List.length_append, List.length_replicate]; omega)
      have eD : Lib.decDigits (M / 10000000000000000000).toNat ++ (pad 19 (M % 10000000000000000000).toNat ++ s) = Lib.decDigits M.toNat ++ s := by
        rw [← List.append_assoc, ← dec_split _ 19 _ (by omega) (by decide) (by rw [show (10 : Nat) ^ 19 = 10000000000000000000 by decide]; omega)]
        congr 2
        rw [show (10 : Nat) ^ 19 = 10000000000000000000 by decide]; omega
      rw [eD] at hK'
      refine ⟨max K K' + 1, fun k hk => ?_⟩
      obtain ⟨k, rfl⟩ : ∃ j, k = j + 1 := ⟨k - 1, by omega⟩
      have e := hK k (by omega)
      have e' := hK' k (by omega)
      simp only [er] at e
      simp only at e'
      have tail : (if (bs (List.replicate (19 - (Lib.decDigits (M % 10000000000000000000).toNat).length) 48)).size + (bs (Lib.decDigits (M % 10000000000000000000).toNat)).size ≤ 9223372036854775807 then (if (bs (List.replicate (19 - (Lib.decDigits (M % 10000000000000000000).toNat).length) 48) ++ bs (Lib.decDigits (M % 10000000000000000000).toNat)).size + (bs s).size ≤ 9223372036854775807 then (wide_Print.l0 k ((bs (List.replicate (19 - (Lib.decDigits (M % 10000000000000000000).toNat).length) 48) ++ bs (Lib.decDigits (M % 10000000000000000000).toNat)) ++ bs s) h l (M / 10000000000000000000 % 18446744073709551616) (M / 10000000000000000000 / 18446744073709551616)) else (none)) else (none)) = some (bs (sgn h ++ (Lib.decDigits M.toNat ++ s))) := by
        rw [bs_app, bs_app, bs_size, bs_size, bs_size, bs_size, List.length_append, List.length_replicate, if_pos (by omega), if_pos (by omega)]
        exact e'
      simp only [wide_Print.l0, e, Option.bind_some]
      rw [fmt_is _ ur]
      simp only [Option.bind_some]
      rw [bs_size, ew, rep_is _ (by omega)]
      simp only [Option.bind_some]
      rw [bs_size] at tail
      by_cases d : M / 10000000000000000000 % 18446744073709551616 = 0
      · rw [if_pos d, if_neg (by omega)]; exact tail
      · rw [if_neg d]; exact tail
theorem sgn_itoa (h l : Int) (hl : U l) : sgn h ++ (Lib.decDigits (mag (h * 18446744073709551616 + l)).toNat ++ []) = Lib.itoa (h * 18446744073709551616 + l) := by
  unfold sgn Lib.itoa U at *
  rw [List.append_nil]
  by_cases c : h < 0
  · rw [if_pos c, if_pos (by omega), mag_neg (by omega), show (-(h * 18446744073709551616 + l)).toNat = (h * 18446744073709551616 + l).natAbs by omega]; rfl
  · rw [if_neg c, if_neg (by omega), mag_pos (by omega)]; rfl
theorem WPrint_is (h l : Int) (hh : Hi h) (hl : U l) : Ev (fun k => wide_Print.f k h l) (bs (Lib.itoa (h * 18446744073709551616 + l))) := by
  have m := mag_lt h l hh hl
  have n := mag_nonneg (h * 18446744073709551616 + l)
  simp only [wide_Print.f]
  rw [amount_is h l hh hl, ← sgn_itoa h l hl]
  simp only [Option.bind_some]
  exact WPrint_from h l 3 _ [] n (by omega) (by rw [show (10 : Int) ^ (19 * 3) = 1000000000000000000000000000000000000000000000000000000000 by decide]; omega) (by simp)
theorem WOf_is (n : Int) (hn : Hi n) : wide_Of.f n = some (n / 18446744073709551616, n % 18446744073709551616) := by
  unfold Hi at hn
  unfold wide_Of.f
  rw [wrap_u64]
  exact pair2 (by omega) rfl
def wsmall (v : Int) : Int × Bool := if -9223372036854775808 ≤ v ∧ v ≤ 9223372036854775807 then (v, true) else (0, false)
theorem WSmall_is (h l : Int) (hh : Hi h) (hl : U l) : wide_Small.f h l = some (wsmall (h * 18446744073709551616 + l)) := by
  unfold Hi U at *
  unfold wide_Small.f wsmall
  have hw : Hi (wrap64 l) := by unfold Hi wrap64; omega
  rw [WOf_is _ hw]
  simp only [Option.bind_some, Bool.or_eq_true, Bool.not_eq_true', beq_eq_false_iff_ne, ne_eq]
  unfold wrap64
  by_cases c : -9223372036854775808 ≤ h * 18446744073709551616 + l ∧ h * 18446744073709551616 + l ≤ 9223372036854775807
  · rw [if_pos c, if_neg (by omega)]
    exact pair2 (by omega) rfl
  · rw [if_neg c, if_pos (by omega)]
theorem enc_parts {v : Int} (h : -170141183460469231731687303715884105728 ≤ v ∧ v < 170141183460469231731687303715884105728) : Hi (v / 18446744073709551616) ∧ U (v % 18446744073709551616) := by
  unfold Hi U; omega
theorem wide_in (h l : Int) (hh : Hi h) (hl : U l) : -170141183460469231731687303715884105728 ≤ h * 18446744073709551616 + l ∧ h * 18446744073709551616 + l < 170141183460469231731687303715884105728 := by
  unfold Hi U at *; omega
/-- -1, 0 or 1. -/
def cmp (x y : Int) : Int := if x < y then -1 else if x > y then 1 else 0
theorem cmp_lt {x y : Int} (h : x < y) : cmp x y = -1 := if_pos h
theorem cmp_gt {x y : Int} (h : y < x) : cmp x y = 1 := by unfold cmp; rw [if_neg (by omega), if_pos h]
theorem cmp_eq {x y : Int} (h : x = y) : cmp x y = 0 := by unfold cmp; rw [if_neg (by omega), if_neg (by omega)]
theorem cmp_cases (x y : Int) : (x < y ∧ cmp x y = -1) ∨ (x = y ∧ cmp x y = 0) ∨ (y < x ∧ cmp x y = 1) := by
  rcases Int.lt_trichotomy x y with h | h | h
  · exact .inl ⟨h, cmp_lt h⟩
  · exact .inr (.inl ⟨h, cmp_eq h⟩)
  · exact .inr (.inr ⟨h, cmp_gt h⟩)
theorem WSub_is (h l h' l' : Int) (hh : Hi h) (hl : U l) (hh' : Hi h') (hl' : U l') :
    wide_Sub.f h l h' l' = some (wenc ((h * 18446744073709551616 + l) - (h' * 18446744073709551616 + l'))) := by
  unfold wide_Sub.f
  have u := U_mod h
  have u' := U_mod h'
  rw [wrap_u64, wrap_u64, if_pos (subHi_le _ _ _), subLo_is _ _ _ u u' (subHi_ge _ _ _) (subHi_le _ _ _), subLo_is _ _ _ hl hl' (by omega) (by omega), subHi_is _ _ _ hl hl' (by omega) (by omega)]
  unfold Hi U at *
  have e : wrap64 ((h % 18446744073709551616 - h' % 18446744073709551616 - if l < l' + 0 then 1 else 0) % 18446744073709551616) = (h - h' + (l - l') / 18446744073709551616 + 9223372036854775808) % 18446744073709551616 - 9223372036854775808 := by
    unfold wrap64; split <;> omega
  rw [e]; clear e
  unfold wenc
  by_cases c : h < 0 <;> by_cases d : h' < 0 <;> simp only [c, d, decide_true, decide_false, bne_self_eq_false, if_true, Bool.true_bne, Bool.false_bne, Bool.not_false, Bool.false_eq_true, if_false, bne_iff_ne, ne_eq]
  · rw [if_pos (by omega)]; exact trip (by omega) (by omega) rfl
  · by_cases g : (h - h' + (l - l') / 18446744073709551616 + 9223372036854775808) % 18446744073709551616 - 9223372036854775808 < 0
    · rw [if_neg (by simp [g]), if_pos (by omega)]; exact trip (by omega) (by omega) rfl
    · rw [if_pos (by simp [g]), if_neg (by omega)]
  · by_cases g : (h - h' + (l - l') / 18446744073709551616 + 9223372036854775808) % 18446744073709551616 - 9223372036854775808 < 0
    · rw [if_pos (by simp [g]), if_neg (by omega)]
    · rw [if_neg (by simp [g]), if_pos (by omega)]; exact trip (by omega) (by omega) rfl
  · rw [if_pos (by omega)]; exact trip (by omega) (by omega) rfl
theorem WCmp_is (h l h' l' : Int) (hl : U l) (hl' : U l') : wide_Cmp.f h l h' l' = some (cmp (h * 18446744073709551616 + l) (h' * 18446744073709551616 + l')) := by
  unfold wide_Cmp.f cmp
  unfold U at *
  simp only [Bool.and_eq_true, beq_iff_eq]
  by_cases c : h = h' ∧ l = l'
  · rw [if_pos c, if_neg (by omega), if_neg (by omega)]
  · rw [if_neg c]
    by_cases d : h < h'
    · rw [if_pos d, if_pos (by omega)]
    · rw [if_neg d]
      by_cases e : h = h'
      · rw [if_pos e]
        by_cases f : l < l'
        · rw [if_pos f, if_pos (by omega)]
        · rw [if_neg f, if_neg (by omega), if_pos (by omega)]
      · rw [if_neg e, if_neg (by omega), if_pos (by omega)]
theorem WSign_is (h l : Int) (hl : U l) : wide_Sign.f h l = some (cmp (h * 18446744073709551616 + l) 0) := by
  unfold wide_Sign.f
  rw [WCmp_is h l 0 0 hl (by unfold U; omega)]; rfl
theorem WNeg_is (h l : Int) (hh : Hi h) (hl : U l) : wide_Neg.f h l = some (wenc (-(h * 18446744073709551616 + l))) := by
  unfold wide_Neg.f
  rw [WSub_is 0 0 h l (by unfold Hi; omega) (by unfold U; omega) hh hl, show (0 * 18446744073709551616 + 0 - (h * 18446744073709551616 + l) : Int) = -(h * 18446744073709551616 + l) by omega]; rfl
/-- The quotient and what is left of two wide numbers, and 0; or zeros and 10. -/
def wquo (v w : Int) : Int × Int × Int × Int × Int :=
  if Int.tdiv v w < 170141183460469231731687303715884105728 then (Int.tdiv v w / 18446744073709551616, Int.tdiv v w % 18446744073709551616, Int.tmod v w / 18446744073709551616, Int.tmod v w % 18446744073709551616, 0) else (0, 0, 0, 0, 10)
theorem Quo_is (h l h' l' : Int) (hh : Hi h) (hl : U l) (hh' : Hi h') (hl' : U l') (h0 : h' * 18446744073709551616 + l' ≠ 0) :
    Ev (fun k => wide_Quo.f k h l h' l') (wquo (h * 18446744073709551616 + l) (h' * 18446744073709551616 + l')) := by
  obtain ⟨e1, e2⟩ := tdiv_mag (h * 18446744073709551616 + l) (h' * 18446744073709551616 + l') h0
  have m1 := mag_lt h l hh hl
  have m2 := mag_lt h' l' hh' hl'
  have n1 := mag_nonneg (h * 18446744073709551616 + l)
  have n2 : 0 < mag (h' * 18446744073709551616 + l') := by unfold mag; split <;> omega
  obtain ⟨K, hK⟩ := divided_is (mag (h * 18446744073709551616 + l)) (mag (h' * 18446744073709551616 + l')) n1 (by omega) n2 (by omega)
  refine ⟨K + 1, fun k hk => ?_⟩
  have hKk := hK k (by omega)
  obtain ⟨k, rfl⟩ : ∃ j, k = j + 1 := ⟨k - 1, by omega⟩
  clear hK
  unfold wquo
  rw [e1, e2, ← Hi_neg h l hl, ← Hi_neg h' l' hl']
  simp only [wide_Quo.f]
  have hz : ¬ (h' == 0 && (l' == 0)) = true := by
    simp only [Bool.and_eq_true, beq_iff_eq]; omega
  rw [if_neg hz, amount_is h l hh hl, amount_is h' l' hh' hl']
  simp only [Option.bind_some]
  clear e1 e2 hz h0
  generalize mag (h * 18446744073709551616 + l) = M at *
  generalize mag (h' * 18446744073709551616 + l') = N at *
  simp only [hKk, Option.bind_some]
  have q0 : 0 ≤ M / N := Int.ediv_nonneg n1 (Int.le_of_lt n2)
  have q1 : M / N ≤ M := Int.ediv_le_self _ n1
  have r0 : 0 ≤ M % N := Int.emod_nonneg _ (by omega)
  have r1 : M % N < N := Int.emod_lt_of_pos _ n2
  rw [signed_at k _ _ _ (U_mod _) (U_div _ q0 (by omega)), U_join, wsigned_enc _ _ q0]
  simp only [Option.bind_some]
  generalize (decide (h < 0) != decide (h' < 0)) = s
  generalize decide (h < 0) = t
  generalize M / N = q at *
  rw [signed_at k _ _ _ (U_mod _) (U_div _ r0 (by omega)), U_join, wsigned_enc _ _ r0]
  simp only [Option.bind_some]
  generalize M % N = r at *
  by_cases c : (if s = true then -q else q) < 170141183460469231731687303715884105728
  · rw [wenc_in (by cases s <;> simp only [Bool.false_eq_true, if_false, if_true] at * <;> omega), if_pos c, if_pos rfl, wenc_in (by cases t <;> simp only [Bool.false_eq_true, if_false, if_true] <;> omega)]
  · rw [wenc_out (by omega), if_neg c, if_neg (by decide)]
theorem point_is (t d : List UInt8) : (bs t ++ (⟨#[46]⟩ : ByteArray)) ++ bs d = bs (t ++ 46 :: d) := by
  rw [show bs t ++ (⟨#[46]⟩ : ByteArray) = bs (t ++ [46]) from bs_app t [46], bs_app, List.append_assoc]; rfl
theorem point_size (t : List UInt8) : (bs t ++ (⟨#[46]⟩ : ByteArray)).size = t.length + 1 := by
  rw [show bs t ++ (⟨#[46]⟩ : ByteArray) = bs (t ++ [46]) from bs_app t [46], bs_size]; simp
theorem take_snoc_ (a : List UInt8) (c : UInt8) : ((a ++ [c]).drop 0).take (a.length - 0) = a := by simp
theorem MShow_from (t : List UInt8) (ht : t.length ≤ 1000) (n : Nat) : ∀ d : List UInt8, d.length = n → n ≤ 1000 → (∃ c ∈ d, c ≠ 48) → Ev (fun k => micro_Show.l0 k (bs t) (bs d)) (bs (t ++ 46 :: stripz d)) := by
  induction n with
  | zero =>
    intro d hd _ h
    obtain rfl := List.length_eq_zero_iff.1 hd
    simp at h
  | succ n ih =>
    intro d hd hn h
    obtain ⟨a, c, rfl⟩ := snoc_of (l := d) (by intro e; subst e; simp at hd)
    rw [List.length_append, List.length_singleton] at hd
    have ew : wrap64 (((a ++ [c]).length : Int) - 1) = (a.length : Int) := by
      rw [List.length_append, List.length_singleton]; unfold wrap64; omega
    have hb : bt (bs (a ++ [c])) (a.length : Int) = (c.toNat : Int) := by
      rw [bt_bs (a ++ [c]) a.length (by simp)]; simp
    have i1 : (0 : Int) ≤ (a.length : Int) := by omega
    have i2 : (a.length : Int) < ((a ++ [c]).length : Int) := by rw [List.length_append, List.length_singleton]; omega
    have i3 : (a.length : Int) ≤ ((a ++ [c]).length : Int) := by omega
    rw [stripz_snoc]
    by_cases hc : c = 48
    · rw [if_pos hc]
      have h' : ∃ x ∈ a, x ≠ 48 := by
        obtain ⟨x, hx, hx'⟩ := h
        rcases List.mem_append.1 hx with g | g
        · exact ⟨x, g, hx'⟩
        · simp at g; subst g; exact absurd hc hx'
      refine Ev.step (fun k => ?_) (ih a (by omega) (by omega) h')
      simp only [micro_Show.l0]
      rw [bs_size, ew, if_pos i1, if_pos i2, hb, hc, if_pos (by decide), if_pos (by rw [← hc]; exact i3), Int.toNat_natCast, ← hc, bs_extract, take_snoc_]
    · rw [if_neg hc]
      refine ⟨1, fun k hk => ?_⟩
      obtain ⟨k, rfl⟩ : ∃ j, k = j + 1 := ⟨k - 1, by omega⟩
      have hc' : ¬ (c.toNat : Int) = 48 := fun g => hc (UInt8.toNat_inj.1 (by rw [show (48 : UInt8).toNat = 48 from rfl]; omega))
      simp only [micro_Show.l0]
      rw [bs_size, ew, if_pos i1, if_pos i2, hb, if_neg hc', bs_size, if_pos (by omega), point_size, if_pos (by rw [List.length_append, List.length_singleton]; omega), point_is]
theorem fmtI_is (u : Nat) (hu : u < 1000000) : strconv_FormatInt.f (wrap64 (1000000 + (u : Int))) 10 = some (bs (49 :: pad 6 u)) := by
  have ew : wrap64 (1000000 + (u : Int)) = ((1000000 + u : Nat) : Int) := by unfold wrap64; omega
  unfold strconv_FormatInt.f
  rw [ew, if_pos ⟨by omega, by omega, rfl⟩]
  have e := dec_split 1 6 u (by decide) (by decide) (by simpa using hu)
  rw [show 1 * 10 ^ 6 + u = 1000000 + u by simp, dec_small (u := 1) (by decide)] at e
  have : Lib.itoa ((1000000 + u : Nat) : Int) = Lib.decDigits (1000000 + u) := by unfold Lib.itoa; rw [if_neg (by omega), Int.toNat_natCast]
  rw [this, e]; rfl
theorem MShow_j (t : List UInt8) (ht : t.length ≤ 1000) (r : Nat) (hr : r < 1000000) : Ev (fun k => micro_Show.j0 k (bs t) ((r : Int) / 18446744073709551616) ((r : Int) % 18446744073709551616)) (bs (t ++ frac r)) := by
  have sm := WSmall_is ((r : Int) / 18446744073709551616) ((r : Int) % 18446744073709551616) (by unfold Hi; omega) (U_mod _)
  rw [U_join] at sm
  unfold wsmall at sm
  rw [if_pos (by omega)] at sm
  by_cases z : r = 0
  · subst z
    refine ⟨1, fun k hk => ?_⟩
    obtain ⟨k, rfl⟩ : ∃ j, k = j + 1 := ⟨k - 1, by omega⟩
    simp only [micro_Show.j0]
    rw [sm]
    simp [frac]
  · have l6 := pad_len (k := 6) (b := r) (by decide) (by simpa using hr)
    have fr := MShow_from t ht 6 (pad 6 r) l6 (by decide) (pad_some 6 r (by omega))
    unfold frac
    rw [if_neg z]
    refine Ev.step (fun k => ?_) fr
    have z' : ¬ (r : Int) = 0 := by omega
    simp only [micro_Show.j0]
    rw [sm]
    simp only [Option.bind_some, z', if_false]
    rw [fmtI_is r hr]
    simp only [Option.bind_some]
    rw [bs_size, if_pos (by simp; omega), bs_extract]
    simp
theorem abs_parts (v : Int) : mag v = (v.natAbs : Int) := by unfold mag; split <;> omega
theorem MShow_is (h l : Int) (hh : Hi h) (hl : U l) : Ev (fun k => micro_Show.f k h l) (bs (showW (h * 18446744073709551616 + l))) := by
  have wi := wide_in h l hh hl
  have q := Quo_is h l 0 1000000 hh hl (by unfold Hi; omega) (by unfold U; omega) (by decide)
  rw [show (0 * 18446744073709551616 + 1000000 : Int) = 1000000 by decide] at q
  obtain ⟨e1, e2⟩ := round_quo (h * 18446744073709551616 + l) 1000000 (by decide)
  rw [abs_parts] at e1 e2
  have sg := WSign_is h l hl
  have oo : wide_Of.f 1000000 = some (0, 1000000) := by rw [WOf_is 1000000 (by unfold Hi; omega)]; rfl
  unfold wquo at q
  rw [e1, e2] at q
  generalize h * 18446744073709551616 + l = v at *
  have hq : (v.natAbs : Int) / 1000000 = ((v.natAbs / 1000000 : Nat) : Int) := by omega
  have hr : (v.natAbs : Int) % 1000000 = ((v.natAbs % 1000000 : Nat) : Int) := by omega
  rw [hq, hr] at q
  have lq : (Lib.decDigits (v.natAbs / 1000000)).length ≤ 33 := dec_len (k := 32) (by
    rw [show (10 : Nat) ^ (32 + 1) = 1000000000000000000000000000000000 by decide +kernel]; omega)
  have rl : v.natAbs % 1000000 < 1000000 := Nat.mod_lt _ (by decide)
  have ql : v.natAbs / 1000000 ≤ 170141183460469231731687303715884 := by omega
  simp only [micro_Show.f]
  rw [oo]
  simp only [Option.bind_some]
  unfold showW
  generalize v.natAbs / 1000000 = a at *
  generalize v.natAbs % 1000000 = r at *
  clear hq hr e1 e2 oo
  by_cases c : v < 0
  · simp only [c, if_true] at q ⊢
    rw [if_pos (by omega)] at q
    obtain ⟨p1, p2⟩ := enc_parts (v := -(a : Int)) (by omega)
    obtain ⟨p3, p4⟩ := enc_parts (v := -(r : Int)) (by omega)
    have pr := WPrint_is _ _ p1 p2
    rw [U_join] at pr
    have sq := WSign_is (-(a : Int) / 18446744073709551616) _ p2
    rw [U_join] at sq
    have ng := WNeg_is _ _ p3 p4
    rw [U_join, Int.neg_neg, wenc_in (by omega)] at ng
    refine Ev.bind q (Ev.bind pr ?_)
    simp only [sg, cmp_lt c, sq, ng, Option.bind_some, show (-1 : Int) < 0 by decide, if_true]
    by_cases z : a = 0
    · subst z
      have : cmp (-((0 : Nat) : Int)) 0 = 0 := by decide
      simp only [this, if_true]
      have := MShow_j [45, 48] (by decide) r rl
      rw [dec_small (by decide)]
      exact this
    · have e : cmp (-(a : Int)) 0 = -1 := cmp_lt (by omega)
      simp only [e, show ¬ (-1 : Int) = 0 by decide, if_false]
      have et : Lib.itoa (-(a : Int)) = 45 :: Lib.decDigits a := by
        unfold Lib.itoa; rw [if_pos (by omega), show (-(a : Int)).natAbs = a by omega]
      rw [et]
      exact MShow_j (45 :: Lib.decDigits a) (by simp; omega) r rl
  · simp only [c, if_false] at q ⊢
    rw [if_pos (by omega)] at q
    obtain ⟨p1, p2⟩ := enc_parts (v := (a : Int)) (by omega)
    have pr := WPrint_is _ _ p1 p2
    rw [U_join] at pr
    refine Ev.bind q (Ev.bind pr ?_)
    have s0 : ¬ cmp v 0 < 0 := by rcases cmp_cases v 0 with ⟨g, _⟩ | ⟨_, e⟩ | ⟨_, e⟩ <;> omega
    simp only [sg, Option.bind_some, s0, if_false]
    have et : Lib.itoa (a : Int) = Lib.decDigits a := by unfold Lib.itoa; rw [if_neg (by omega)]; simp
    rw [et]
    exact MShow_j (Lib.decDigits a) (by omega) r rl
/-- By, from the round of bit m - 1 on. -/
theorem By_from (A n : Int) (hA : 0 ≤ A) (hA' : A < 340282366920938463463374607431768211456) (hn : 0 < n) (hn' : n < 9223372036854775808) (m : Nat) : m ≤ 128 →
    Ev (fun k => tumblerref02_By.l0 k n (A / 2 ^ m % n) ((m : Int) - 1) (A / 18446744073709551616) (A % 18446744073709551616) false
      (A / 2 ^ m / n * 2 ^ m / 18446744073709551616) (A / 2 ^ m / n * 2 ^ m % 18446744073709551616) false)
      (A / n / 18446744073709551616, A / n % 18446744073709551616, false, A % n) := by
  induction m with
  | zero =>
    intro _
    refine ⟨1, fun k hk => ?_⟩
    obtain ⟨k, rfl⟩ : ∃ j, k = j + 1 := ⟨k - 1, by omega⟩
    simp only [tumblerref02_By.l0]
    rw [if_neg (by decide), Int.pow_zero, Int.ediv_one, Int.mul_one]
  | succ m ih =>
    intro hm
    obtain ⟨K, hK⟩ := ih (by omega)
    refine ⟨K + 2, fun k hk => ?_⟩
    obtain ⟨k, rfl⟩ : ∃ j, k = j + 2 := ⟨k - 2, by omega⟩
    have hi : (((m + 1 : Nat) : Int) - 1) = m := by omega
    have hr0 := Int.emod_nonneg (A / 2 ^ (m + 1)) (show n ≠ 0 by omega)
    have hr1 := Int.emod_lt_of_pos (A / 2 ^ (m + 1)) hn
    obtain ⟨q0, q1, qd⟩ := quo_room A n m hA hA' hn
    obtain ⟨nl, ng⟩ := quo_next A n m hA hn _ rfl
    have hnext : wrap64 ((m : Int) - 1) = (m : Int) - 1 := by unfold wrap64; omega
    have ht : IntKind.u64.wrap (Int.tmod (m : Int) 64) = ((m % 64 : Nat) : Int) := by
      rw [Int.tmod_eq_emod_of_nonneg (by omega)]
      exact wraps_u64 _ (by omega) (by omega)
    have h0 : 0 ≤ A / 2 ^ m := Int.ediv_nonneg hA (Int.le_of_lt (two_pos _))
    have hb0 : A / 2 ^ m % 2 = 0 ∨ A / 2 ^ m % 2 = 1 := by omega
    have step : ∀ b, b = A / 2 ^ m % 2 → tumblerref02_By.j2 (k + 1) n (A / 2 ^ (m + 1) % n) (m : Int) b (A / 18446744073709551616) (A % 18446744073709551616) false
        (A / 2 ^ (m + 1) / n * 2 ^ (m + 1) / 18446744073709551616) (A / 2 ^ (m + 1) / n * 2 ^ (m + 1) % 18446744073709551616) false = some (A / n / 18446744073709551616, A / n % 18446744073709551616, false, A % n) := by
      intro b hb
      rw [← hb] at nl ng hb0
      simp only [tumblerref02_By.j2]
      generalize A / 2 ^ (m + 1) % n = r at *
      have e1 : IntKind.u64.wrap (IntKind.u64.wrap (r * 2) + b) = 2 * r + b := by rw [wrap_u64, wrap_u64]; omega
      rw [e1]
      by_cases c : n ≤ 2 * r + b
      · obtain ⟨e2, e3⟩ := ng c
        rw [if_pos c, ht, wrap_u64, show (2 * r + b - n) % 18446744073709551616 = A / 2 ^ m % n by omega, hnext, shl_one _ (by omega) (by omega), Int.toNat_natCast]
        by_cases c6 : 64 ≤ m
        · obtain ⟨s1, s2⟩ := set_high _ m c6 (by omega) q0 q1 qd
          rw [if_pos (by omega), if_pos (by omega), show m % 64 = m - 64 by omega, s1, s2, ← e3]
          exact hK k (by omega)
        · obtain ⟨s1, s2⟩ := set_low _ m (by omega) q0 qd
          rw [if_neg (by omega), if_pos (by omega), show m % 64 = m by omega, s1, s2, ← e3]
          exact hK k (by omega)
      · obtain ⟨e2, e3⟩ := nl (by omega)
        rw [if_neg c, ← e2, ← e3, hnext]
        exact hK k (by omega)
    show tumblerref02_By.l0 (k + 2) _ _ _ _ _ _ _ _ _ = _
    simp only [tumblerref02_By.l0]
    rw [hi, if_pos (by omega), ht, if_pos (by omega)]
    by_cases c6 : 64 ≤ m
    · rw [if_pos (by omega)]
      apply step
      have hz : 0 ≤ A / 18446744073709551616 / 2 ^ (m % 64) := Int.ediv_nonneg (by omega) (Int.le_of_lt (two_pos _))
      have hz' : A / 18446744073709551616 / 2 ^ (m % 64) ≤ A / 18446744073709551616 := Int.ediv_le_self _ (by omega)
      rw [shr_at _ _ (by omega) (by omega), Int.toNat_natCast, and_one _ hz (by omega), show m % 64 = m - 64 by omega, high_bit A m c6]
    · rw [if_neg (by omega)]
      apply step
      have hz : 0 ≤ A % 18446744073709551616 / 2 ^ (m % 64) := Int.ediv_nonneg (by omega) (Int.le_of_lt (two_pos _))
      have hz' : A % 18446744073709551616 / 2 ^ (m % 64) ≤ A % 18446744073709551616 := Int.ediv_le_self _ (by omega)
      rw [shr_at _ _ (by omega) (by omega), Int.toNat_natCast, and_one _ hz (by omega), show m % 64 = m by omega, low_bit A m (by omega)]
theorem By_is (h l n : Int) (hh : U h) (hl : U l) (hn : 0 < n) (hn' : n < 9223372036854775808) :
    Ev (fun k => tumblerref02_By.f k h l false n)
      ((h * 18446744073709551616 + l) / n / 18446744073709551616, (h * 18446744073709551616 + l) / n % 18446744073709551616, false, (h * 18446744073709551616 + l) % n) := by
  unfold U at hh hl
  obtain ⟨K, hK⟩ := By_from (h * 18446744073709551616 + l) n (by omega) (by omega) hn hn' 128 (by omega)
  refine ⟨K + 1, fun k hk => ?_⟩
  obtain ⟨k, rfl⟩ : ∃ j, k = j + 1 := ⟨k - 1, by omega⟩
  have e := hK k (by omega)
  have z : (h * 18446744073709551616 + l) / 2 ^ 128 = 0 := by
    rw [show (2 : Int) ^ 128 = 340282366920938463463374607431768211456 by decide]; omega
  rw [z] at e
  simp only [Int.zero_emod, Int.zero_ediv, Int.zero_mul] at e
  rw [show (h * 18446744073709551616 + l) / 18446744073709551616 = h by omega, show (h * 18446744073709551616 + l) % 18446744073709551616 = l by omega] at e
  simp only [tumblerref02_By.f, tumblerref02_By.j0]
  rw [if_neg (by omega), if_neg (by simpa using hn')]
  exact e
theorem strOf_dig64 (r : Int) (h0 : 0 ≤ r) (h1 : r < 10) : strOfNums [(IntKind.u64.wrap (48 + r)) % 256] = bs [dig r.toNat] := by
  unfold strOfNums bs dig
  simp only [List.map_cons, List.map_nil]
  rw [wrap_u64, show ((48 + r) % 18446744073709551616 % 256).toNat = 48 + r.toNat by omega]
/-- n digits at least. -/
def padz (n m : Nat) : List UInt8 := if m = 0 then List.replicate n 48 else pad n m
theorem padz_next (n m : Nat) (h : 0 < m ∨ 0 < n) : padz (n - 1) (m / 10) ++ [dig (m % 10)] = padz n m := by
  unfold padz
  by_cases z : m = 0
  · subst z
    rw [if_pos rfl, if_pos rfl, show n = (n - 1) + 1 by omega, Nat.add_sub_cancel, List.replicate_succ']; rfl
  · rw [if_neg z]
    by_cases s : m < 10
    · rw [if_pos (by omega), show m % 10 = m by omega]
      unfold pad
      rw [dec_small s]; rfl
    · rw [if_neg (by omega)]
      unfold pad
      rw [dec_big s, List.length_append, List.length_singleton, List.append_assoc, show n - ((Lib.decDigits (m / 10)).length + 1) = n - 1 - (Lib.decDigits (m / 10)).length by omega]
theorem RDigits2_from (j : Nat) : ∀ (m : Nat) (s : List UInt8), (m : Int) < 340282366920938463463374607431768211456 → m < 10 ^ j → 7 - s.length ≤ j → s.length + j ≤ 1000 →
    Ev (fun k => tumblerref02_digits.l0 k (bs s) ((m : Int) / 18446744073709551616) ((m : Int) % 18446744073709551616) false) (bs (padz (7 - s.length) m ++ s)) := by
  induction j with
  | zero =>
    intro m s h0 h1 h2 h3
    have : m = 0 := by simpa using h1
    subst this
    refine ⟨1, fun k hk => ?_⟩
    obtain ⟨k, rfl⟩ : ∃ j, k = j + 1 := ⟨k - 1, by omega⟩
    simp only [tumblerref02_digits.l0]
    rw [if_neg (by decide), if_neg (by decide), bs_size, if_neg (by omega), show 7 - s.length = 0 by omega]
    unfold padz; rw [if_pos rfl]; rfl
  | succ j ih =>
    intro m s h0 h1 h2 h3
    by_cases go : 0 < m ∨ 0 < 7 - s.length
    · have hm := U_div (m : Int) (by omega) h0
      obtain ⟨K, hK⟩ := By_is ((m : Int) / 18446744073709551616) ((m : Int) % 18446744073709551616) 10 hm (U_mod _) (by decide) (by decide)
      rw [U_join, show (m : Int) / 10 = ((m / 10 : Nat) : Int) by omega] at hK
      obtain ⟨K', hK'⟩ := ih (m / 10) (dig (m % 10) :: s) (by omega) (by rw [Nat.pow_succ] at h1; omega) (by simp; omega) (by simp; omega)
      rw [List.length_cons, show 7 - (s.length + 1) = 7 - s.length - 1 by omega, show padz (7 - s.length - 1) (m / 10) ++ dig (m % 10) :: s = padz (7 - s.length) m ++ s by rw [← padz_next _ _ go, List.append_assoc]; rfl] at hK'
      refine ⟨max K K' + 1, fun k hk => ?_⟩
      obtain ⟨k, rfl⟩ : ∃ j, k = j + 1 := ⟨k - 1, by omega⟩
      have e := hK k (by omega)
      have e' := hK' k (by omega)
      simp only at e e'
      have ed := strOf_dig64 ((m : Int) % 10) (by omega) (by omega)
      rw [show ((m : Int) % 10).toNat = m % 10 by omega] at ed
      have tail : (if (strOfNums [(IntKind.u64.wrap (48 + (m : Int) % 10)) % 256]).size + (bs s).size ≤ 9223372036854775807 then (tumblerref02_digits.l0 k ((strOfNums [(IntKind.u64.wrap (48 + (m : Int) % 10)) % 256]) ++ bs s) (((m / 10 : Nat) : Int) / 18446744073709551616) (((m / 10 : Nat) : Int) % 18446744073709551616) false) else (none)) = some (bs (padz (7 - s.length) m ++ s)) := by
        rw [ed, bs_app, bs_size, bs_size, if_pos (by simp; omega)]
        exact e'
      simp only [tumblerref02_digits.l0, e, Option.bind_some]
      by_cases c1 : (m : Int) / 18446744073709551616 > 0
      · rw [if_pos c1]; exact tail
      · rw [if_neg c1]
        by_cases c2 : (m : Int) % 18446744073709551616 > 0
        · rw [if_pos c2]; exact tail
        · rw [if_neg c2, if_pos (by rw [bs_size]; omega)]; exact tail
    · refine ⟨1, fun k hk => ?_⟩
      obtain ⟨k, rfl⟩ : ∃ j, k = j + 1 := ⟨k - 1, by omega⟩
      have : m = 0 := by omega
      subst this
      simp only [tumblerref02_digits.l0]
      rw [if_neg (by decide), if_neg (by decide), bs_size, if_neg (by omega), show 7 - s.length = 0 by omega]
      unfold padz; rw [if_pos rfl]; rfl
def sgb (b : Bool) : List UInt8 := if b = true then [45] else []
theorem Text_from (b : Bool) (t : List UInt8) (ht : t.length ≤ 1000) (n : Nat) : ∀ d : List UInt8, d.length = n → n ≤ 1000 →
    Ev (fun k => tumblerref02_Text.l0 k b (bs t) (bs d)) (bs (sgb b ++ (t ++ (if stripz d = [] then [] else 46 :: stripz d)))) := by
  have minus : ∀ s, (⟨#[45]⟩ : ByteArray) ++ bs s = bs (45 :: s) := fun s => bs_app [45] s
  have pt : ∀ d, (bs t ++ (⟨#[46]⟩ : ByteArray)) ++ bs d = bs (t ++ 46 :: d) := fun d => by
    rw [show bs t ++ (⟨#[46]⟩ : ByteArray) = bs (t ++ [46]) from bs_app t [46], bs_app, List.append_assoc]; rfl
  have ps : (bs t ++ (⟨#[46]⟩ : ByteArray)).size = t.length + 1 := by
    rw [show bs t ++ (⟨#[46]⟩ : ByteArray) = bs (t ++ [46]) from bs_app t [46], bs_size]; simp
  have fin : ∀ k (d : List UInt8), d.length ≤ 1000 → stripz d = d → tumblerref02_Text.j1 (k + 1) b (bs t) (bs d) = some (bs (sgb b ++ (t ++ (if stripz d = [] then [] else 46 :: stripz d)))) := by
    intro k d hd hs
    rw [hs]
    simp only [tumblerref02_Text.j1]
    rw [ps, pt, minus, minus, bs_size, bs_size, bs_size]
    unfold sgb
    by_cases z : d = []
    · subst z
      rw [if_neg (by decide), if_pos rfl, List.append_nil]
      cases b
      · rfl
      · rw [if_pos rfl, if_pos (by omega)]; rfl
    · have : 0 < d.length := List.length_pos_iff.2 z
      rw [if_pos (by omega), if_neg z, if_pos (by omega), if_pos (by omega)]
      cases b
      · rfl
      · rw [if_pos rfl, if_pos (by rw [List.length_append, List.length_cons]; omega)]; rfl
  induction n with
  | zero =>
    intro d hd _
    obtain rfl := List.length_eq_zero_iff.1 hd
    refine ⟨2, fun k hk => ?_⟩
    obtain ⟨k, rfl⟩ : ∃ j, k = j + 2 := ⟨k - 2, by omega⟩
    simp only [tumblerref02_Text.l0]
    rw [bs_size, if_neg (by decide)]
    exact fin k [] (by simp) rfl
  | succ n ih =>
    intro d hd hn
    obtain ⟨a, c, rfl⟩ := snoc_of (l := d) (by intro e; subst e; simp at hd)
    have hd2 := hd
    rw [List.length_append, List.length_singleton] at hd
    have ew : wrap64 (((a ++ [c]).length : Int) - 1) = (a.length : Int) := by
      rw [List.length_append, List.length_singleton]; unfold wrap64; omega
    have hb : bt (bs (a ++ [c])) (a.length : Int) = (c.toNat : Int) := by
      rw [bt_bs (a ++ [c]) a.length (by simp)]; simp
    have i0 : ((a ++ [c]).length : Int) > 0 := by rw [hd2]; omega
    have i1 : (0 : Int) ≤ (a.length : Int) := by omega
    have i2 : (a.length : Int) < ((a ++ [c]).length : Int) := by rw [hd2]; omega
    have i3 : (a.length : Int) ≤ ((a ++ [c]).length : Int) := by omega
    by_cases hc : c = 48
    · have e : stripz (a ++ [c]) = stripz a := by rw [stripz_snoc, if_pos hc]
      rw [e]
      refine Ev.step (fun k => ?_) (ih a (by omega) (by omega))
      have hc' : (c.toNat : Int) = 48 := by rw [hc]; rfl
      simp only [tumblerref02_Text.l0]
      rw [bs_size, if_pos i0, ew, if_pos i1, if_pos i2, hb, if_pos hc', if_pos i3, Int.toNat_natCast, bs_extract, show ((a ++ [c]).drop 0).take (a.length - 0) = a by simp]
    · have e : stripz (a ++ [c]) = a ++ [c] := by rw [stripz_snoc, if_neg hc]
      refine ⟨2, fun k hk => ?_⟩
      obtain ⟨k, rfl⟩ : ∃ j, k = j + 2 := ⟨k - 2, by omega⟩
      have hc' : ¬ (c.toNat : Int) = 48 := fun g => hc (UInt8.toNat_inj.1 (by rw [show (48 : UInt8).toNat = 48 from rfl]; omega))
      simp only [tumblerref02_Text.l0]
      rw [bs_size, if_pos i0, ew, if_pos i1, if_pos i2, hb, if_neg hc']
      exact fin k _ (by omega) e
theorem Text_is (v : Int) (b : Bool) (hv : v.natAbs ≤ 170141183460469231731687303715884105728) (hb : b = decide (v < 0)) :
    Ev (fun k => tumblerref02_Text.f k ((v.natAbs : Int) / 18446744073709551616) ((v.natAbs : Int) % 18446744073709551616) false b) (bs (showW v)) := by
  have dg := RDigits2_from 40 v.natAbs [] (by omega) (by rw [show (10 : Nat) ^ 40 = 10000000000000000000000000000000000000000 by decide +kernel]; omega) (by simp) (by simp)
  rw [List.append_nil, show padz (7 - ([] : List UInt8).length) v.natAbs = pad 7 v.natAbs by
    unfold padz
    by_cases z : v.natAbs = 0
    · rw [if_pos z, z]; unfold pad; rw [dec_small (by decide)]; rfl
    · rw [if_neg z]; rfl, pad_seven] at dg
  have l6 := pad_len (k := 6) (b := v.natAbs % 1000000) (by decide) (by simp; omega)
  have lq : (Lib.decDigits (v.natAbs / 1000000)).length ≤ 33 := dec_len (k := 32) (by
    rw [show (10 : Nat) ^ (32 + 1) = 1000000000000000000000000000000000 by decide +kernel]; omega)
  have tx := Text_from b (Lib.decDigits (v.natAbs / 1000000)) (by omega) 6 (pad 6 (v.natAbs % 1000000)) l6 (by decide)
  rw [frac_is] at tx
  have es : sgb b ++ (Lib.decDigits (v.natAbs / 1000000) ++ frac (v.natAbs % 1000000)) = showW v := by
    unfold sgb showW
    rw [hb]
    by_cases c : v < 0 <;> simp [c]
  rw [es] at tx
  simp only [tumblerref02_Text.f, tumblerref02_digits.f]
  refine Ev.bind dg ?_
  generalize Lib.decDigits (v.natAbs / 1000000) = A at *
  generalize pad 6 (v.natAbs % 1000000) = D at *
  have ew : wrap64 (((A ++ D).length : Int) - 6) = (A.length : Int) := by
    rw [List.length_append, l6]; unfold wrap64; omega
  rw [bs_size, ew]
  have i1 : (0 : Int) ≤ (A.length : Int) := by omega
  have i2 : (A.length : Int) ≤ ((A ++ D).length : Int) := by rw [List.length_append]; omega
  simp only [i1, i2, if_true, Int.toNat_natCast, bs_extract]
  rw [show ((A ++ D).drop 0).take (A.length - 0) = A by simp, show ((A ++ D).drop A.length).take ((A ++ D).length - A.length) = D by simp]
  exact tx
theorem Of_is (v : Int) (hv : Hi v) : tumblerref02_Of.f v = some (0, mag v, false, decide (v < 0)) := by
  unfold Hi at *
  unfold tumblerref02_Of.f
  simp only [wrap_u64, wrap64]
  by_cases c : v < 0
  · rw [if_pos c, mag_neg c]
    simp only [Option.some.injEq, Prod.mk.injEq, true_and]
    refine ⟨by omega, (decide_eq_true c).symm⟩
  · rw [if_neg c, mag_pos (by omega)]
    simp only [Option.some.injEq, Prod.mk.injEq, true_and]
    refine ⟨by omega, (decide_eq_false c).symm⟩
theorem MicroPrints : tumblerlaw02_MicroPrints.Pure := by
  intro n hn
  have hn : Hi n := wf_i64 hn
  refine Ev_rounds (g := fun k => tumblerlaw02_MicroPrints.f k n) ?_
  have hn' := hn
  unfold Hi at hn'
  have sh := MShow_is (n / 18446744073709551616) (n % 18446744073709551616) (by unfold Hi; omega) (U_mod n)
  rw [U_join] at sh
  have tx := Text_is n _ (by omega) rfl
  rw [show (n.natAbs : Int) / 18446744073709551616 = 0 by omega, show (n.natAbs : Int) % 18446744073709551616 = (n.natAbs : Int) by omega] at tx
  simp only [tumblerlaw02_MicroPrints.f, micro_Print.f, tumblerref02_Print.f]
  rw [WOf_is n hn, Of_is n hn, abs_parts]
  simp only [Option.bind_some]
  refine Ev.bind (Ev.bind sh (Ev.now _)) (Ev.bind (Ev.bind tx (Ev.now _)) ⟨0, fun k _ => ?_⟩)
  show some _ = some _
  rw [beq_self_eq_true]
end Go.Proofs.YtcfhmbhlibhlnaaDoor.MM
