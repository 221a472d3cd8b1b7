/- What WideDivides says of whole numbers and texts alone, and why it holds: this session's own texts in one. -/
import Derived.Test.YtcfhmbhlibhlnaaDoorMine
import Derived.Test.YtcfhmbhlibhlnaaDoorPx0
import Derived.Test.YtcfhmbhlibhlnaaDoorPxf64
import Derived.Test.YtcfhmbhlibhlnaaDoorPxf72
import Derived.Test.YtcfhmbhlibhlnaaDoorPxf70
import Derived.Test.YtcfhmbhlibhlnaaDoorPxf27
import Derived.Test.YtcfhmbhlibhlnaaDoorPxf47
import Derived.Test.YtcfhmbhlibhlnaaDoorPxf41
import Derived.Test.YtcfhmbhlibhlnaaDoorPxf31
import Derived.Test.YtcfhmbhlibhlnaaDoorPxf39
import Derived.Test.YtcfhmbhlibhlnaaDoorPxf30
import Derived.Test.YtcfhmbhlibhlnaaDoorPxf50
import Derived.Test.YtcfhmbhlibhlnaaDoorPxf43
import Derived.Test.YtcfhmbhlibhlnaaDoorPxf45
import Derived.Test.YtcfhmbhlibhlnaaDoorPxf65
import Derived.Test.YtcfhmbhlibhlnaaDoorPxf25
import Derived.Test.YtcfhmbhlibhlnaaDoorPxf29
import Derived.Test.YtcfhmbhlibhlnaaDoorPxf32d
import Derived.Test.YtcfhmbhlibhlnaaDoorPxf14
namespace Go.Proofs.YtcfhmbhlibhlnaaDoor.MM
open Go.RowKit Go.Proofs.YtcfhmbhlibhlnaaDoor.P Go.Proofs.YtcfhmbhlibhlnaaDoorW.PrintWords Go.Proofs.YtcfhmbhlibhlnaaDoorW.PrintMore Go.Proofs.YtcfhmbhlibhlnaaDoor.Mine
set_option linter.unusedVariables false
set_option linter.unusedSimpArgs false
theorem Ev_rounds {α : Type} {g : Nat → Option α} {r : α} (h : Ev g r) : ∃ k, g k = some r := by
  obtain ⟨K, h⟩ := h
  exact ⟨K, h K (Nat.le_refl _)⟩
theorem wrap_u64 (n : Int) : IntKind.u64.wrap n = n % 18446744073709551616 := by simp [IntKind.wrap, IntKind.bits, IntKind.signed]
theorem wraps_u64 (n : Int) (h₀ : 0 ≤ n) (h₁ : n < 2 ^ 64) : IntKind.u64.wrap n = n := by rw [wrap_u64]; omega
theorem and_one (x : Int) (h0 : 0 ≤ x) (h1 : x < 18446744073709551616) : Go.bits .and .u64 x 1 = x % 2 :=
  bits_mask .u64 64 (by decide) wraps_u64 1 (by decide) x h0 (by simpa using h1)
theorem and_low (x : Int) (h0 : 0 ≤ x) (h1 : x < 18446744073709551616) : Go.bits .and .u64 x 4294967295 = x % 4294967296 :=
  bits_mask .u64 64 (by decide) wraps_u64 32 (by decide) x h0 (by simpa using h1)
theorem or_one (x y : Int) (h0 : 0 ≤ x) (h1 : x < 18446744073709551616) (h2 : x % 2 = 0) (h3 : 0 ≤ y) (h4 : y < 2) : Go.bits .or .u64 x y = x + y :=
  bits_join .u64 64 (by decide) wraps_u64 1 x y h0 (by simpa using h2) (by simpa using h1) h3 (by simpa using h4) (by simp; omega)
theorem two_lt (j : Nat) : (2 : Int) ^ j < 2 ^ (j + 1) := by
  have hz : (0 : Int) < 2 ^ j := Int.pow_pos (by decide)
  rw [Int.pow_succ]; omega
theorem two_le {j i : Nat} (h : j ≤ i) : (2 : Int) ^ j ≤ 2 ^ i := by
  have h : (2 : Nat) ^ j ≤ 2 ^ i := Nat.pow_le_pow_right (by decide) h
  exact_mod_cast h
theorem or_bit (x : Int) (j : Nat) (hj : j < 64) (h0 : 0 ≤ x) (h1 : x < 18446744073709551616) (h2 : x % 2 ^ (j + 1) = 0) : Go.bits .or .u64 x (2 ^ j) = x + 2 ^ j := by
  have hp := two_lt j
  have hq : (2 : Int) ^ (j + 1) ≤ 2 ^ 64 := two_le (by omega)
  have hz : (0 : Int) < 2 ^ j := Int.pow_pos (by decide)
  exact bits_join .u64 64 (by decide) wraps_u64 (j + 1) x (2 ^ j) h0 h2 (by simpa using h1) (Int.le_of_lt hz) hp (by omega)
theorem shl_one (i : Int) (h0 : 0 ≤ i) (h1 : i < 64) : shl .u64 1 i = 2 ^ i.toNat := by
  have e : min i.toNat (IntKind.u64.bits) = i.toNat := by show min i.toNat 64 = _; omega
  unfold shl; rw [e, Int.one_mul]
  apply wraps_u64 _ (Int.le_of_lt (Int.pow_pos (by decide)))
  have h : (2 : Nat) ^ i.toNat < 2 ^ 64 := Nat.pow_lt_pow_right (by decide) (by omega)
  exact_mod_cast h
theorem shr_at (x i : Int) (h0 : 0 ≤ i) (h1 : i < 64) : shr .u64 x i = x / 2 ^ i.toNat := by
  have e : min i.toNat (IntKind.u64.bits) = i.toNat := by show min i.toNat 64 = _; omega
  unfold shr; rw [e]
theorem wf_i64 {a : Int} (h : (Lit.int .i64 a).wf = true) : -9223372036854775808 ≤ a ∧ a ≤ 9223372036854775807 := by
  have e1 : IntKind.i64.min = -9223372036854775808 := by decide
  have e2 : IntKind.i64.max = 9223372036854775807 := by decide
  simpa [Lit.wf, e1, e2] using h
theorem wf_u64 {a : Int} (h : (Lit.int .u64 a).wf = true) : 0 ≤ a ∧ a < 18446744073709551616 := by
  have e1 : IntKind.u64.min = 0 := by decide
  have e2 : IntKind.u64.max = 18446744073709551615 := by decide
  simp [Lit.wf, e1, e2] at h
  omega
def U (x : Int) : Prop := 0 ≤ x ∧ x < 18446744073709551616
theorem pair2 {α β : Type} {a a' : α} {b b' : β} (h : a = a') (h' : b = b') : some (a, b) = some (a', b') := by subst h h'; rfl
theorem trip {α β γ : Type} {a a' : α} {b b' : β} {c c' : γ} (h : a = a') (h' : b = b') (h'' : c = c') : some (a, b, c) = some (a', b', c') := by subst h h' h''; rfl
def Hi (x : Int) : Prop := -9223372036854775808 ≤ x ∧ x ≤ 9223372036854775807
def mag (v : Int) : Int := if v < 0 then -v else v
theorem mag_pos {v : Int} (h : 0 ≤ v) : mag v = v := if_neg (by omega)
theorem mag_neg {v : Int} (h : v < 0) : mag v = -v := if_pos h
theorem mag_nonneg (v : Int) : 0 ≤ mag v := by unfold mag; split <;> omega
theorem two_pos (j : Nat) : (0 : Int) < 2 ^ j := Int.pow_pos (by decide)
theorem halve (n : Int) (j : Nat) : n / 2 ^ (j + 1) = n / 2 ^ j / 2 := by
  rw [Int.pow_succ, ← Int.ediv_ediv_of_nonneg (Int.le_of_lt (two_pos j))]
theorem two_split (n : Int) (j : Nat) : n / 2 ^ j = 2 * (n / 2 ^ (j + 1)) + n / 2 ^ j % 2 := by
  rw [halve]; omega
theorem two_add (a b : Nat) : (2 : Int) ^ (a + b) = 2 ^ a * 2 ^ b := Int.pow_add 2 a b
theorem low_bit (A : Int) (j : Nat) (hj : j < 64) : A % 18446744073709551616 / 2 ^ j % 2 = A / 2 ^ j % 2 := by
  have e : (18446744073709551616 : Int) = 2 ^ j * (2 ^ (63 - j) * 2) := by
    rw [← Int.pow_succ, ← two_add, show j + (63 - j + 1) = 64 by omega]; rfl
  have h := Int.emod_add_mul_ediv A 18446744073709551616
  have k : A / 2 ^ j = A % 18446744073709551616 / 2 ^ j + 2 ^ (63 - j) * 2 * (A / 18446744073709551616) := by
    have h' : A = A % 18446744073709551616 + (2 ^ (63 - j) * 2 * (A / 18446744073709551616)) * 2 ^ j := by
      rw [Int.mul_comm _ ((2 : Int) ^ j), ← Int.mul_assoc ((2 : Int) ^ j), ← e]; exact h.symm
    conv => lhs; rw [h']
    rw [Int.add_mul_ediv_right _ _ (by have := two_pos j; omega)]
  rw [k, Int.mul_comm ((2 : Int) ^ (63 - j)) 2, Int.mul_assoc]
  omega
theorem high_bit (A : Int) (j : Nat) (hj : 64 ≤ j) : A / 18446744073709551616 / 2 ^ (j - 64) = A / 2 ^ j := by
  rw [Int.ediv_ediv_of_nonneg (by decide), show (18446744073709551616 : Int) = 2 ^ 64 by rfl, ← two_add, show 64 + (j - 64) = j by omega]
theorem set_high (Q : Int) (j : Nat) (hj : 64 ≤ j) (hj' : j < 128) (h0 : 0 ≤ Q) (h1 : Q < 340282366920938463463374607431768211456) (hd : Q % 2 ^ (j + 1) = 0) :
    Go.bits .or .u64 (Q / 18446744073709551616) (2 ^ (j - 64)) = (Q + 2 ^ j) / 18446744073709551616 ∧ Q % 18446744073709551616 = (Q + 2 ^ j) % 18446744073709551616 := by
  have e : (2 : Int) ^ j = 2 ^ (j - 64) * 18446744073709551616 := by
    rw [show (18446744073709551616 : Int) = 2 ^ 64 by rfl, ← two_add, show j - 64 + 64 = j by omega]
  have e1 : (2 : Int) ^ (j + 1) = 2 ^ (j - 64 + 1) * 18446744073709551616 := by
    rw [show (18446744073709551616 : Int) = 2 ^ 64 by rfl, ← two_add, show j - 64 + 1 + 64 = j + 1 by omega]
  obtain ⟨c, hc⟩ := Int.dvd_of_emod_eq_zero hd
  have q : Q / 18446744073709551616 = 2 ^ (j - 64 + 1) * c := by
    rw [hc, e1, Int.mul_assoc, Int.mul_comm 18446744073709551616, ← Int.mul_assoc, Int.mul_ediv_cancel _ (by decide)]
  rw [e, Int.add_mul_ediv_right _ _ (by decide), Int.add_mul_emod_self_right]
  refine ⟨or_bit _ _ (by omega) (by omega) (by omega) ?_, rfl⟩
  rw [q, Int.mul_emod_right]
theorem set_low (Q : Int) (j : Nat) (hj : j < 64) (h0 : 0 ≤ Q) (hd : Q % 2 ^ (j + 1) = 0) :
    Go.bits .or .u64 (Q % 18446744073709551616) (2 ^ j) = (Q + 2 ^ j) % 18446744073709551616 ∧ Q / 18446744073709551616 = (Q + 2 ^ j) / 18446744073709551616 := by
  have e : (18446744073709551616 : Int) = 2 ^ (j + 1) * 2 ^ (63 - j) := by
    rw [← two_add, show j + 1 + (63 - j) = 64 by omega]; rfl
  have hp := two_pos (j + 1)
  have hq := two_lt j
  have hr := two_pos j
  obtain ⟨c, hc⟩ := Int.dvd_of_emod_eq_zero hd
  have m : Q % 18446744073709551616 = 2 ^ (j + 1) * (c % 2 ^ (63 - j)) := by
    rw [hc, e, Int.mul_emod_mul_of_pos _ _ hp]
  have s := Int.emod_lt_of_pos c (two_pos (63 - j))
  have t : 2 ^ (j + 1) * (c % 2 ^ (63 - j) + 1) ≤ (18446744073709551616 : Int) := by
    rw [e]; exact Int.mul_le_mul_of_nonneg_left (by omega) (Int.le_of_lt hp)
  rw [Int.mul_add, Int.mul_one, ← m] at t
  have z : Q % 18446744073709551616 % 2 ^ (j + 1) = 0 := by rw [m, Int.mul_emod_right]
  rw [or_bit _ j hj (by omega) (by omega) z]
  omega
theorem quo_next (A n : Int) (j : Nat) (hA : 0 ≤ A) (hn : 0 < n) (b : Int) (hb : b = A / 2 ^ j % 2) :
    (2 * (A / 2 ^ (j + 1) % n) + b < n → A / 2 ^ j % n = 2 * (A / 2 ^ (j + 1) % n) + b ∧ A / 2 ^ j / n * 2 ^ j = A / 2 ^ (j + 1) / n * 2 ^ (j + 1)) ∧
    (n ≤ 2 * (A / 2 ^ (j + 1) % n) + b → A / 2 ^ j % n = 2 * (A / 2 ^ (j + 1) % n) + b - n ∧ A / 2 ^ j / n * 2 ^ j = A / 2 ^ (j + 1) / n * 2 ^ (j + 1) + 2 ^ j) := by
  have hs := two_split A j
  rw [← hb] at hs
  have hb0 : b = 0 ∨ b = 1 := by omega
  have he := Int.emod_add_mul_ediv (A / 2 ^ (j + 1)) n
  have h0 := Int.emod_nonneg (A / 2 ^ (j + 1)) (show n ≠ 0 by omega)
  have h1 := Int.emod_lt_of_pos (A / 2 ^ (j + 1)) hn
  have hp : (2 : Int) ^ (j + 1) = 2 * 2 ^ j := by rw [Int.pow_succ, Int.mul_comm]
  generalize A / 2 ^ (j + 1) / n = q at *
  generalize A / 2 ^ (j + 1) % n = r at *
  generalize A / 2 ^ (j + 1) = P at *
  have hA2 : A / 2 ^ j = n * (2 * q) + (2 * r + b) := by
    have : n * (2 * q) = 2 * (n * q) := by rw [← Int.mul_assoc, Int.mul_comm n 2, Int.mul_assoc]
    omega
  constructor
  · intro hlt
    rw [hA2, Int.mul_add_emod_self_left, Int.add_comm (n * (2 * q)), Int.add_mul_ediv_left _ _ (by omega), Int.emod_eq_of_lt (by omega) hlt, Int.ediv_eq_zero_of_lt (by omega) hlt, hp]
    refine ⟨rfl, ?_⟩
    rw [Int.zero_add, Int.mul_comm 2 q, Int.mul_assoc]
  · intro hge
    have hA3 : A / 2 ^ j = n * (2 * q + 1) + (2 * r + b - n) := by rw [hA2, Int.mul_add]; omega
    rw [hA3, Int.mul_add_emod_self_left, Int.add_comm (n * (2 * q + 1)), Int.add_mul_ediv_left _ _ (by omega), Int.emod_eq_of_lt (by omega) (by omega), Int.ediv_eq_zero_of_lt (by omega) (by omega), hp]
    refine ⟨rfl, ?_⟩
    rw [Int.zero_add, Int.add_mul, Int.mul_comm 2 q, Int.mul_assoc, Int.one_mul]
theorem quo_room (A n : Int) (j : Nat) (hA : 0 ≤ A) (hA' : A < 340282366920938463463374607431768211456) (hn : 0 < n) :
    0 ≤ A / 2 ^ (j + 1) / n * 2 ^ (j + 1) ∧ A / 2 ^ (j + 1) / n * 2 ^ (j + 1) < 340282366920938463463374607431768211456 ∧ A / 2 ^ (j + 1) / n * 2 ^ (j + 1) % 2 ^ (j + 1) = 0 := by
  have hp := two_pos (j + 1)
  have h0 : 0 ≤ A / 2 ^ (j + 1) := Int.ediv_nonneg hA (Int.le_of_lt hp)
  have h1 : A / 2 ^ (j + 1) / n ≤ A / 2 ^ (j + 1) := Int.ediv_le_self _ h0
  have h2 : A / 2 ^ (j + 1) / n * 2 ^ (j + 1) ≤ A / 2 ^ (j + 1) * 2 ^ (j + 1) := Int.mul_le_mul_of_nonneg_right h1 (Int.le_of_lt hp)
  have h3 : A / 2 ^ (j + 1) * 2 ^ (j + 1) ≤ A := Int.ediv_mul_le _ (by omega)
  have h4 : 0 ≤ A / 2 ^ (j + 1) / n := Int.ediv_nonneg h0 (Int.le_of_lt hn)
  exact ⟨Int.mul_nonneg h4 (Int.le_of_lt hp), by omega, Int.mul_emod_left _ _⟩
theorem mag_lt (h l : Int) (hh : Hi h) (hl : U l) : mag (h * 18446744073709551616 + l) ≤ 170141183460469231731687303715884105728 := by
  unfold Hi U mag at *
  split <;> omega
theorem U_mod (x : Int) : U (x % 18446744073709551616) := by unfold U; omega
theorem U_div (x : Int) (h : 0 ≤ x) (h' : x < 340282366920938463463374607431768211456) : U (x / 18446744073709551616) := by unfold U; omega
theorem U_join (x : Int) : x / 18446744073709551616 * 18446744073709551616 + x % 18446744073709551616 = x := by omega
theorem tdiv_at (m : Nat) (h : m < 128) : wrap64 (Int.tdiv (m : Int) 64) = ((m / 64 : Nat) : Int) := by
  rw [Int.tdiv_eq_ediv_of_nonneg (by omega)]
  unfold wrap64
  omega
theorem tmod_at (m : Nat) : IntKind.u64.wrap (Int.tmod (m : Int) 64) = ((m % 64 : Nat) : Int) := by
  rw [Int.tmod_eq_emod_of_nonneg (by omega)]
  exact wraps_u64 _ (by omega) (by omega)
theorem bit_at (y : Int) (m : Nat) (h0 : 0 ≤ y) (h1 : y < 18446744073709551616) : Go.bits .and .u64 (shr .u64 y ((m % 64 : Nat) : Int)) 1 = y / 2 ^ (m % 64) % 2 := by
  have hz : 0 ≤ y / 2 ^ (m % 64) := Int.ediv_nonneg h0 (Int.le_of_lt (two_pos _))
  have hz' : y / 2 ^ (m % 64) ≤ y := Int.ediv_le_self _ h0
  rw [shr_at _ _ (by omega) (by omega), Int.toNat_natCast, and_one _ hz (by omega)]
theorem bit_high (A : Int) (m : Nat) (hA : 0 ≤ A) (hA' : A < 340282366920938463463374607431768211456) (h : 64 ≤ m) (h' : m < 128) : Go.bits .and .u64 (shr .u64 (A / 18446744073709551616) ((m % 64 : Nat) : Int)) 1 = A / 2 ^ m % 2 := by
  rw [bit_at _ _ (by omega) (by omega), show m % 64 = m - 64 by omega, high_bit A m h]
theorem bit_low (A : Int) (m : Nat) (h : m < 64) : Go.bits .and .u64 (shr .u64 (A % 18446744073709551616) ((m % 64 : Nat) : Int)) 1 = A / 2 ^ m % 2 := by
  rw [bit_at _ _ (by omega) (by omega), show m % 64 = m by omega, low_bit A m h]
theorem sign_mul (v w : Int) : (if ((decide (v < 0)) != (decide (w < 0))) = true then -(mag v * mag w) else mag v * mag w) = v * w := by
  unfold mag
  by_cases c : v < 0 <;> by_cases d : w < 0 <;> simp [c, d, Int.neg_mul, Int.mul_neg]
theorem Hi_neg (h l : Int) (hl : U l) : decide (h < 0) = decide (h * 18446744073709551616 + l < 0) := by
  unfold U at hl; exact decide_eq_decide.2 (by omega)
theorem tdiv_mag (v w : Int) (hw : w ≠ 0) : Int.tdiv v w = (if ((decide (v < 0)) != (decide (w < 0))) = true then -(mag v / mag w) else mag v / mag w) ∧ Int.tmod v w = (if decide (v < 0) = true then -(mag v % mag w) else mag v % mag w) := by
  unfold mag
  by_cases c : v < 0 <;> by_cases d : w < 0 <;> simp only [c, d, decide_true, decide_false, if_true, if_false, bne_self_eq_false, Bool.false_eq_true, Bool.true_bne, Bool.not_false, Bool.false_bne, bne_iff_ne, ne_eq, not_false_eq_true, reduceCtorEq]
  · obtain ⟨a, rfl⟩ : ∃ a, v = -a := ⟨-v, by omega⟩
    obtain ⟨b, rfl⟩ : ∃ b, w = -b := ⟨-w, by omega⟩
    rw [Int.neg_tdiv, Int.tdiv_neg, Int.neg_neg, Int.neg_tmod, Int.tmod_neg, Int.neg_neg, Int.neg_neg, Int.tdiv_eq_ediv_of_nonneg (by omega), Int.tmod_eq_emod_of_nonneg (by omega)]
    exact ⟨rfl, rfl⟩
  · obtain ⟨a, rfl⟩ : ∃ a, v = -a := ⟨-v, by omega⟩
    rw [Int.neg_tdiv, Int.neg_tmod, Int.neg_neg, Int.tdiv_eq_ediv_of_nonneg (by omega), Int.tmod_eq_emod_of_nonneg (by omega)]
    exact ⟨rfl, rfl⟩
  · obtain ⟨b, rfl⟩ : ∃ b, w = -b := ⟨-w, by omega⟩
    rw [Int.tdiv_neg, Int.tmod_neg, Int.neg_neg, Int.tdiv_eq_ediv_of_nonneg (by omega), Int.tmod_eq_emod_of_nonneg (by omega)]
    exact ⟨rfl, rfl⟩
  · rw [Int.tdiv_eq_ediv_of_nonneg (by omega), Int.tmod_eq_emod_of_nonneg (by omega)]
    exact ⟨rfl, rfl⟩
theorem subHi_is (x y c : Int) (hx : U x) (hy : U y) (hc : 0 ≤ c) (hc' : c ≤ 1) : subHi x y c = if x < y + c then 1 else 0 := by
  unfold U at *
  unfold subHi
  by_cases h : x < y + c
  · rw [if_pos h, if_pos (by omega)]; rfl
  · rw [if_neg h, if_neg (by omega)]; rfl
theorem subHi_le (x y c : Int) : subHi x y c ≤ 1 := by unfold subHi; split <;> decide
theorem subHi_ge (x y c : Int) : 0 ≤ subHi x y c := by unfold subHi; split <;> decide
theorem subLo_is (x y c : Int) (hx : U x) (hy : U y) (hc : 0 ≤ c) (hc' : c ≤ 1) : subLo x y c = (x - y - c) % 18446744073709551616 := by
  unfold U at *
  unfold subLo
  omega
theorem addLo_is (x y c : Int) (hx : U x) (hy : U y) (hc : 0 ≤ c) (hc' : c ≤ 1) : addLo x y c = (x + y + c) % 18446744073709551616 := by
  unfold U at *
  unfold addLo
  omega
theorem addHi_is (x y c : Int) (hx : U x) (hy : U y) (hc : 0 ≤ c) (hc' : c ≤ 1) : addHi x y c = (x + y + c) / 18446744073709551616 := by
  unfold U at *
  unfold addHi
  omega
theorem amount_is (h l : Int) (hh : Hi h) (hl : U l) : wide_amount.f h l = some (mag (h * 18446744073709551616 + l) % 18446744073709551616, mag (h * 18446744073709551616 + l) / 18446744073709551616) := by
  unfold wide_amount.f
  by_cases c : h ≥ 0
  · unfold Hi U at *
    rw [if_pos c, mag_pos (by omega), wrap_u64]
    exact pair2 (by omega) (by omega)
  · have z : U 0 := by unfold U; omega
    have hw : U (h % 18446744073709551616) := by unfold U; omega
    rw [if_neg c, if_pos (subHi_le _ _ _), wrap_u64, subLo_is _ _ _ z hl (by omega) (by omega), subLo_is _ _ _ z hw (subHi_ge _ _ _) (subHi_le _ _ _), subHi_is _ _ _ z hl (by omega) (by omega)]
    unfold Hi U at *
    rw [mag_neg (by omega)]
    by_cases d : l = 0
    · rw [if_neg (by omega)]
      exact pair2 (by omega) (by omega)
    · rw [if_pos (by omega)]
      exact pair2 (by omega) (by omega)
def wsigned (M : Int) (b : Bool) : Int × Int × Int :=
  if M > 170141183460469231731687303715884105728 ∨ M = 170141183460469231731687303715884105728 ∧ b = false then (0, 0, 10) else ((if b = true then -M else M) / 18446744073709551616, (if b = true then -M else M) % 18446744073709551616, 0)
theorem signed_at (k : Nat) (l h : Int) (b : Bool) (hl : U l) (hh : U h) : wide_signed.f (k + 1) l h b = some (wsigned (h * 18446744073709551616 + l) b) := by
  have z : U 0 := by unfold U; omega
  unfold wide_signed.f wsigned
  simp only [wide_signed.j0]
  rw [if_pos (subHi_le _ _ _), subLo_is _ _ _ z hl (by omega) (by omega), subLo_is _ _ _ z hh (subHi_ge _ _ _) (subHi_le _ _ _), subHi_is _ _ _ z hl (by omega) (by omega)]
  unfold U at *
  cases b <;> simp only [Bool.false_eq_true, if_false, if_true, reduceCtorEq, and_false, and_true, or_false, wrap64, decide_eq_true_eq]
  all_goals
    repeat' split
    all_goals first | rfl | (exfalso; omega) | exact trip (by omega) (by omega) rfl
def wenc (x : Int) : Int × Int × Int := if -170141183460469231731687303715884105728 ≤ x ∧ x < 170141183460469231731687303715884105728 then (x / 18446744073709551616, x % 18446744073709551616, 0) else (0, 0, 10)
theorem wenc_in {x : Int} (h : -170141183460469231731687303715884105728 ≤ x ∧ x < 170141183460469231731687303715884105728) : wenc x = (x / 18446744073709551616, x % 18446744073709551616, 0) := if_pos h
theorem wenc_out {x : Int} (h : ¬ (-170141183460469231731687303715884105728 ≤ x ∧ x < 170141183460469231731687303715884105728)) : wenc x = (0, 0, 10) := if_neg h
theorem wsigned_enc (M : Int) (b : Bool) (hM : 0 ≤ M) : wsigned M b = wenc (if b = true then -M else M) := by
  unfold wsigned wenc
  cases b <;> simp only [Bool.false_eq_true, if_false, if_true, reduceCtorEq, and_false, and_true, or_false]
  · by_cases c : M > 170141183460469231731687303715884105728 ∨ M = 170141183460469231731687303715884105728
    · rw [if_pos c, if_neg (by omega)]
    · rw [if_neg c, if_pos (by omega)]
  · by_cases c : M > 170141183460469231731687303715884105728
    · rw [if_pos c, if_neg (by omega)]
    · rw [if_neg c, if_pos (by omega)]
theorem Mul64_is (x y : Int) (hx : U x) (hy : U y) : bits_Mul64.f x y = some (x * y / 18446744073709551616, x * y % 18446744073709551616) := by
  unfold U at *
  unfold bits_Mul64.f
  rw [and_low x (by omega) (by omega), and_low y (by omega) (by omega)]
  generalize hx1 : x / 4294967296 = x1
  generalize hx0 : x % 4294967296 = x0
  generalize hy1 : y / 4294967296 = y1
  generalize hy0 : y % 4294967296 = y0
  have b1 : 0 ≤ x1 ∧ x1 ≤ 4294967295 := by omega
  have b0 : 0 ≤ x0 ∧ x0 ≤ 4294967295 := by omega
  have c1 : 0 ≤ y1 ∧ y1 ≤ 4294967295 := by omega
  have c0 : 0 ≤ y0 ∧ y0 ≤ 4294967295 := by omega
  have lim : ∀ a b : Int, 0 ≤ a ∧ a ≤ 4294967295 → 0 ≤ b ∧ b ≤ 4294967295 → 0 ≤ a * b ∧ a * b ≤ 18446744065119617025 := fun a b ha hb => by
    have h1 : a * b ≤ 4294967295 * 4294967295 := Int.mul_le_mul ha.2 hb.2 hb.1 (by omega)
    exact ⟨Int.mul_nonneg ha.1 hb.1, by omega⟩
  have p00 := lim x0 y0 b0 c0
  have p10 := lim x1 y0 b1 c0
  have p01 := lim x0 y1 b0 c1
  have p11 := lim x1 y1 b1 c1
  have hxy : x * y = x1 * y1 * 18446744073709551616 + (x1 * y0 + x0 * y1) * 4294967296 + x0 * y0 := by
    have e1 : x = x1 * 4294967296 + x0 := by omega
    have e2 : y = y1 * 4294967296 + y0 := by omega
    rw [e1, e2]; grind
  rw [hxy]
  generalize x0 * y0 = a at *
  generalize x1 * y0 = b at *
  generalize x0 * y1 = c at *
  generalize x1 * y1 = d at *
  have ea : IntKind.u64.wrap a = a := by rw [wrap_u64]; omega
  have eb : IntKind.u64.wrap b = b := by rw [wrap_u64]; omega
  have ec : IntKind.u64.wrap c = c := by rw [wrap_u64]; omega
  have ed : IntKind.u64.wrap d = d := by rw [wrap_u64]; omega
  have et : IntKind.u64.wrap (b + a / 4294967296) = b + a / 4294967296 := by rw [wrap_u64]; omega
  rw [ea, eb, ec, ed, et, and_low _ (by omega) (by omega)]
  have ew : IntKind.u64.wrap ((b + a / 4294967296) % 4294967296 + c) = (b + a / 4294967296) % 4294967296 + c := by rw [wrap_u64]; omega
  rw [ew, wrap_u64, wrap_u64, wrap_u64]
  exact pair2 (by omega) rfl
theorem Mul_half (k : Nat) (M N : Int) (h0 h1 g0 g1 : Int) (s : Bool) (R : Int × Int × Int) (hM : 0 ≤ M) (hM' : M < 340282366920938463463374607431768211456) (hN : 0 ≤ N) (hN' : N < 18446744073709551616) (hs : (decide (h0 < 0) != decide (g0 < 0)) = s)
    (hR : R = wenc (if s = true then -(M * N) else M * N)) (hK : ∀ l h, U l → U h → wide_signed.f k l h s = some (wsigned (h * 18446744073709551616 + l) s)) :
    wide_Mul.j1 (k + 1) h0 h1 g0 g1 (M % 18446744073709551616) (M / 18446744073709551616) (N % 18446744073709551616) (N / 18446744073709551616) = some R := by
  simp only [wide_Mul.j1]
  have u0 := U_mod M
  have u1 := U_div M hM hM'
  have v0 := U_mod N
  rw [Mul64_is _ _ u0 v0, Mul64_is _ _ u1 v0, hs, hR]
  have hp : M * N = (M / 18446744073709551616 * (N % 18446744073709551616)) * 18446744073709551616 + M % 18446744073709551616 * (N % 18446744073709551616) := by
    have e1 : N % 18446744073709551616 = N := by omega
    have e2 : M = M / 18446744073709551616 * 18446744073709551616 + M % 18446744073709551616 := by omega
    rw [e1]
    conv => lhs; rw [e2]
    rw [Int.add_mul, Int.mul_right_comm]
  have p1 : 0 ≤ M / 18446744073709551616 * (N % 18446744073709551616) := Int.mul_nonneg u1.1 v0.1
  have p0 : 0 ≤ M % 18446744073709551616 * (N % 18446744073709551616) := Int.mul_nonneg u0.1 v0.1
  have q0 : M % 18446744073709551616 * (N % 18446744073709551616) ≤ 18446744073709551615 * 18446744073709551615 := Int.mul_le_mul (by omega) (by omega) v0.1 (by omega)
  rw [hp]
  clear hp hR u0 u1 v0
  generalize M / 18446744073709551616 * (N % 18446744073709551616) = a at *
  generalize M % 18446744073709551616 * (N % 18446744073709551616) = b at *
  simp only [Option.bind_some]
  have ub : U (b / 18446744073709551616) := by unfold U; omega
  by_cases c : a / 18446744073709551616 > 0
  · rw [if_pos c, wenc_out]
    cases s <;> simp only [Bool.false_eq_true, if_false, if_true] <;> omega
  · rw [if_neg c, addHi_is _ _ _ ub (U_mod _) (by omega) (by omega), addLo_is _ _ _ ub (U_mod _) (by omega) (by omega)]
    by_cases d : (b / 18446744073709551616 + a % 18446744073709551616 + 0) / 18446744073709551616 > 0
    · rw [if_pos d, wenc_out]
      cases s <;> simp only [Bool.false_eq_true, if_false, if_true] <;> omega
    · rw [if_neg d, hK _ _ (U_mod _) (U_mod _)]
      simp only [Option.bind_some]
      have e : (b / 18446744073709551616 + a % 18446744073709551616 + 0) % 18446744073709551616 * 18446744073709551616 + b % 18446744073709551616 = a * 18446744073709551616 + b := by omega
      rw [e, wsigned_enc _ _ (by omega)]
theorem signed_all (s : Bool) : ∃ K, ∀ k, K ≤ k → ∀ l h, U l → U h → wide_signed.f k l h s = some (wsigned (h * 18446744073709551616 + l) s) :=
  ⟨1, fun k hk l h hl hh => by
    obtain ⟨k, rfl⟩ : ∃ j, k = j + 1 := ⟨k - 1, by omega⟩
    exact signed_at k l h s hl hh⟩
theorem Mul_is (h l h' l' : Int) (hh : Hi h) (hl : U l) (hh' : Hi h') (hl' : U l') :
    Ev (fun k => wide_Mul.f k h l h' l') (wenc ((h * 18446744073709551616 + l) * (h' * 18446744073709551616 + l'))) := by
  obtain ⟨K, hK⟩ := signed_all (decide (h < 0) != decide (h' < 0))
  refine ⟨K + 2, fun k hk => ?_⟩
  obtain ⟨k, rfl⟩ : ∃ j, k = j + 2 := ⟨k - 2, by omega⟩
  have hv := sign_mul (h * 18446744073709551616 + l) (h' * 18446744073709551616 + l')
  rw [← Hi_neg h l hl, ← Hi_neg h' l' hl'] at hv
  simp only [wide_Mul.f]
  rw [amount_is h l hh hl, amount_is h' l' hh' hl']
  simp only [Option.bind_some]
  have m1 := mag_lt h l hh hl
  have m2 := mag_lt h' l' hh' hl'
  have n1 := mag_nonneg (h * 18446744073709551616 + l)
  have n2 := mag_nonneg (h' * 18446744073709551616 + l')
  rw [← hv]
  generalize mag (h * 18446744073709551616 + l) = M at *
  generalize mag (h' * 18446744073709551616 + l') = N at *
  clear hv
  have hKk := hK k (by omega)
  generalize hs : (decide (h < 0) != decide (h' < 0)) = s at *
  by_cases c : M / 18446744073709551616 > 0
  · rw [if_pos c]
    by_cases d : N / 18446744073709551616 > 0
    · rw [decide_eq_true d]
      simp only [wide_Mul.j0, if_true]
      have : 18446744073709551616 * 18446744073709551616 ≤ M * N := Int.mul_le_mul (by omega) (by omega) (by omega) (by omega)
      rw [wenc_out]
      cases s <;> simp only [Bool.false_eq_true, if_false, if_true] <;> omega
    · rw [decide_eq_false d]
      simp only [wide_Mul.j0, Bool.false_eq_true, if_false]
      rw [if_neg d]
      exact Mul_half k M N h l h' l' s _ (by omega) (by omega) (by omega) (by omega) hs rfl hKk
  · rw [if_neg c]
    simp only [wide_Mul.j0, Bool.false_eq_true, if_false]
    by_cases d : N / 18446744073709551616 > 0
    · rw [if_pos d]
      exact Mul_half k N M h l h' l' s _ (by omega) (by omega) (by omega) (by omega) hs (by rw [Int.mul_comm N M]) hKk
    · rw [if_neg d]
      exact Mul_half k M N h l h' l' s _ (by omega) (by omega) (by omega) (by omega) hs rfl hKk
theorem WOf_is (n : Int) (hn : Hi n) : wide_Of.f n = some (n / 18446744073709551616, n % 18446744073709551616) := by
  unfold Hi at hn
  unfold wide_Of.f
  rw [wrap_u64]
  exact pair2 (by omega) rfl
def cmp (x y : Int) : Int := if x < y then -1 else if x > y then 1 else 0
theorem cmp_lt {x y : Int} (h : x < y) : cmp x y = -1 := if_pos h
theorem cmp_gt {x y : Int} (h : y < x) : cmp x y = 1 := by unfold cmp; rw [if_neg (by omega), if_pos h]
theorem cmp_eq {x y : Int} (h : x = y) : cmp x y = 0 := by unfold cmp; rw [if_neg (by omega), if_neg (by omega)]
theorem WAdd_is (h l h' l' : Int) (hh : Hi h) (hl : U l) (hh' : Hi h') (hl' : U l') :
    wide_Add.f h l h' l' = some (wenc ((h * 18446744073709551616 + l) + (h' * 18446744073709551616 + l'))) := by
  unfold wide_Add.f
  have u := U_mod h
  have u' := U_mod h'
  rw [wrap_u64, wrap_u64, addHi_is _ _ _ hl hl' (by omega) (by omega), addLo_is _ _ _ hl hl' (by omega) (by omega)]
  unfold Hi U at *
  rw [if_pos (by omega), addLo_is _ _ _ u u' (by omega) (by omega)]
  have e : wrap64 ((h % 18446744073709551616 + h' % 18446744073709551616 + (l + l' + 0) / 18446744073709551616) % 18446744073709551616) = (h + h' + (l + l') / 18446744073709551616 + 9223372036854775808) % 18446744073709551616 - 9223372036854775808 := by
    unfold wrap64; omega
  rw [e]; clear e
  unfold wenc
  by_cases c : h < 0 <;> by_cases d : h' < 0 <;> simp only [c, d, decide_true, decide_false, beq_self_eq_true, if_true, show (true == false) = false from rfl, show (false == true) = false from rfl, Bool.false_eq_true, if_false, bne_iff_ne, ne_eq]
  · by_cases g : (h + h' + (l + l') / 18446744073709551616 + 9223372036854775808) % 18446744073709551616 - 9223372036854775808 < 0
    · rw [if_neg (by simp [g]), if_pos (by omega)]; exact trip (by omega) (by omega) rfl
    · rw [if_pos (by simp [g]), if_neg (by omega)]
  · rw [if_pos (by omega)]; exact trip (by omega) (by omega) rfl
  · rw [if_pos (by omega)]; exact trip (by omega) (by omega) rfl
  · by_cases g : (h + h' + (l + l') / 18446744073709551616 + 9223372036854775808) % 18446744073709551616 - 9223372036854775808 < 0
    · rw [if_pos (by simp [g]), if_neg (by omega)]
    · rw [if_neg (by simp [g]), if_pos (by omega)]; exact trip (by omega) (by omega) rfl
theorem WSub_is (h l h' l' : Int) (hh : Hi h) (hl : U l) (hh' : Hi h') (hl' : U l') :
    wide_Sub.f h l h' l' = some (wenc ((h * 18446744073709551616 + l) - (h' * 18446744073709551616 + l'))) := by
  unfold wide_Sub.f
  have u := U_mod h
  have u' := U_mod h'
  rw [wrap_u64, wrap_u64, if_pos (subHi_le _ _ _), subLo_is _ _ _ u u' (subHi_ge _ _ _) (subHi_le _ _ _), subLo_is _ _ _ hl hl' (by omega) (by omega), subHi_is _ _ _ hl hl' (by omega) (by omega)]
  unfold Hi U at *
  have e : wrap64 ((h % 18446744073709551616 - h' % 18446744073709551616 - if l < l' + 0 then 1 else 0) % 18446744073709551616) = (h - h' + (l - l') / 18446744073709551616 + 9223372036854775808) % 18446744073709551616 - 9223372036854775808 := by
    unfold wrap64; split <;> omega
  rw [e]; clear e
  unfold wenc
  by_cases c : h < 0 <;> by_cases d : h' < 0 <;> simp only [c, d, decide_true, decide_false, bne_self_eq_false, if_true, Bool.true_bne, Bool.false_bne, Bool.not_false, Bool.false_eq_true, if_false, bne_iff_ne, ne_eq]
  · rw [if_pos (by omega)]; exact trip (by omega) (by omega) rfl
  · by_cases g : (h - h' + (l - l') / 18446744073709551616 + 9223372036854775808) % 18446744073709551616 - 9223372036854775808 < 0
    · rw [if_neg (by simp [g]), if_pos (by omega)]; exact trip (by omega) (by omega) rfl
    · rw [if_pos (by simp [g]), if_neg (by omega)]
  · by_cases g : (h - h' + (l - l') / 18446744073709551616 + 9223372036854775808) % 18446744073709551616 - 9223372036854775808 < 0
    · rw [if_pos (by simp [g]), if_neg (by omega)]
    · rw [if_neg (by simp [g]), if_pos (by omega)]; exact trip (by omega) (by omega) rfl
  · rw [if_pos (by omega)]; exact trip (by omega) (by omega) rfl
theorem WCmp_is (h l h' l' : Int) (hl : U l) (hl' : U l') : wide_Cmp.f h l h' l' = some (cmp (h * 18446744073709551616 + l) (h' * 18446744073709551616 + l')) := by
  unfold wide_Cmp.f cmp
  unfold U at *
  simp only [Bool.and_eq_true, beq_iff_eq]
  by_cases c : h = h' ∧ l = l'
  · rw [if_pos c, if_neg (by omega), if_neg (by omega)]
  · rw [if_neg c]
    by_cases d : h < h'
    · rw [if_pos d, if_pos (by omega)]
    · rw [if_neg d]
      by_cases e : h = h'
      · rw [if_pos e]
        by_cases f : l < l'
        · rw [if_pos f, if_pos (by omega)]
        · rw [if_neg f, if_neg (by omega), if_pos (by omega)]
      · rw [if_neg e, if_neg (by omega), if_pos (by omega)]
theorem WSign_is (h l : Int) (hl : U l) : wide_Sign.f h l = some (cmp (h * 18446744073709551616 + l) 0) := by
  unfold wide_Sign.f
  rw [WCmp_is h l 0 0 hl (by unfold U; omega)]; rfl
theorem WNeg_is (h l : Int) (hh : Hi h) (hl : U l) : wide_Neg.f h l = some (wenc (-(h * 18446744073709551616 + l))) := by
  unfold wide_Neg.f
  rw [WSub_is 0 0 h l (by unfold Hi; omega) (by unfold U; omega) hh hl, show (0 * 18446744073709551616 + 0 - (h * 18446744073709551616 + l) : Int) = -(h * 18446744073709551616 + l) by omega]; rfl
theorem WAbs_is (h l : Int) (hh : Hi h) (hl : U l) : wide_Abs.f h l = some (wenc (mag (h * 18446744073709551616 + l))) := by
  unfold wide_Abs.f
  by_cases c : h < 0
  · rw [if_pos c, WNeg_is h l hh hl, mag_neg (by unfold U at hl; omega)]; rfl
  · unfold Hi U at *
    rw [if_neg c, mag_pos (by omega), wenc_in (by omega)]
    exact trip (by omega) (by omega) rfl
theorem twice_limbs (r b : Int) (h0 : 0 ≤ r) (h1 : r < 340282366920938463463374607431768211456) (hb : b = 0 ∨ b = 1) :
    Go.bits .or .u64 (IntKind.u64.wrap (r % 18446744073709551616 * 2)) b = (2 * r + b) % 18446744073709551616 ∧
    Go.bits .or .u64 (IntKind.u64.wrap (r / 18446744073709551616 * 2)) (r % 18446744073709551616 / 9223372036854775808) = (2 * r + b) % 340282366920938463463374607431768211456 / 18446744073709551616 ∧
    r / 18446744073709551616 / 9223372036854775808 = (2 * r + b) / 340282366920938463463374607431768211456 := by
  rw [wrap_u64, wrap_u64, or_one _ _ (by omega) (by omega) (by omega) (by omega) (by omega), or_one _ _ (by omega) (by omega) (by omega) (by omega) (by omega)]
  omega
theorem less_limbs (s n : Int) (hn : 0 < n) (hn' : n < 340282366920938463463374607431768211456) (h : n ≤ s) (h' : s < 2 * n) :
    subLo (s % 18446744073709551616) (n % 18446744073709551616) 0 = (s - n) % 18446744073709551616 ∧
    subLo (s % 340282366920938463463374607431768211456 / 18446744073709551616) (n / 18446744073709551616) (subHi (s % 18446744073709551616) (n % 18446744073709551616) 0) = (s - n) / 18446744073709551616 := by
  have u0 := U_mod s
  have u1 := U_div (s % 340282366920938463463374607431768211456) (by omega) (by omega)
  have v0 := U_mod n
  have v1 := U_div n (by omega) hn'
  rw [subLo_is _ _ _ u0 v0 (by omega) (by omega), subLo_is _ _ _ u1 v1 (subHi_ge _ _ _) (subHi_le _ _ _), subHi_is _ _ _ u0 v0 (by omega) (by omega)]
  clear u0 u1 v0 v1
  refine ⟨by omega, ?_⟩
  split <;> omega
theorem above_limbs (s n : Int) (h0 : 0 ≤ s) (h1 : s < 680564733841876926926749214863536422912) (hn : 0 < n) (hn' : n < 340282366920938463463374607431768211456) :
    (s / 340282366920938463463374607431768211456 = 1 → n ≤ s) ∧
    (¬ s / 340282366920938463463374607431768211456 = 1 → s % 340282366920938463463374607431768211456 / 18446744073709551616 > n / 18446744073709551616 → n ≤ s) ∧
    (¬ s / 340282366920938463463374607431768211456 = 1 → s % 340282366920938463463374607431768211456 / 18446744073709551616 = n / 18446744073709551616 → (s % 18446744073709551616 ≥ n % 18446744073709551616 ↔ n ≤ s)) ∧
    (¬ s / 340282366920938463463374607431768211456 = 1 → ¬ s % 340282366920938463463374607431768211456 / 18446744073709551616 > n / 18446744073709551616 → ¬ s % 340282366920938463463374607431768211456 / 18446744073709551616 = n / 18446744073709551616 → ¬ n ≤ s) := by
  refine ⟨fun _ => by omega, fun _ _ => by omega, fun _ _ => by omega, fun _ _ _ => by omega⟩
theorem divided_second (k : Nat) (A n r b : Int) (m : Nat) (R : Int × Int × Int × Int) (hm : m < 128) (hA : 0 ≤ A) (hA' : A < 340282366920938463463374607431768211456) (hn : 0 < n) (hn' : n < 340282366920938463463374607431768211456)
    (hb : b = A / 2 ^ m % 2) (hr : r = A / 2 ^ (m + 1) % n)
    (hK : wide_divided.l0 k ((m : Int) - 1) (A % 18446744073709551616) (A / 18446744073709551616) (n % 18446744073709551616) (n / 18446744073709551616)
      (A / 2 ^ m / n * 2 ^ m % 18446744073709551616) (A / 2 ^ m / n * 2 ^ m / 18446744073709551616) (A / 2 ^ m % n % 18446744073709551616) (A / 2 ^ m % n / 18446744073709551616) = some R) (c : Bool) (hc : c = decide (n ≤ 2 * r + b)) :
    wide_divided.j1 (k + 1) (m : Int) c (A % 18446744073709551616) (A / 18446744073709551616) (n % 18446744073709551616) (n / 18446744073709551616)
      (A / 2 ^ (m + 1) / n * 2 ^ (m + 1) % 18446744073709551616) (A / 2 ^ (m + 1) / n * 2 ^ (m + 1) / 18446744073709551616) ((2 * r + b) % 18446744073709551616) ((2 * r + b) % 340282366920938463463374607431768211456 / 18446744073709551616) = some R := by
  have hr0 := Int.emod_nonneg (A / 2 ^ (m + 1)) (show n ≠ 0 by omega)
  have hr1 := Int.emod_lt_of_pos (A / 2 ^ (m + 1)) hn
  obtain ⟨q0, q1, qd⟩ := quo_room A n m hA hA' hn
  obtain ⟨nl, ng⟩ := quo_next A n m hA hn b hb
  rw [← hr] at hr0 hr1 nl ng
  have hb0 : b = 0 ∨ b = 1 := by rw [hb]; omega
  have hnext : wrap64 ((m : Int) - 1) = (m : Int) - 1 := by clear hK; unfold wrap64; omega
  simp only [wide_divided.j1]
  by_cases g : n ≤ 2 * r + b
  · obtain ⟨e2, e3⟩ := ng g
    obtain ⟨lo, hi'⟩ := less_limbs (2 * r + b) n hn hn' g (by omega)
    rw [hc, decide_eq_true g, if_pos rfl, if_pos (subHi_le _ _ _), lo, hi', tdiv_at m hm, tmod_at, hnext, shl_one _ (by omega) (by omega), Int.toNat_natCast, ← e2]
    by_cases c6 : 64 ≤ m
    · obtain ⟨s1, s2⟩ := set_high _ m c6 hm q0 q1 qd
      rw [if_neg (by omega), if_pos (by omega), if_pos (by omega), show m % 64 = m - 64 by omega, s1, s2, ← e3]
      exact hK
    · obtain ⟨s1, s2⟩ := set_low _ m (by omega) q0 qd
      rw [if_pos (by omega), if_pos (by omega), show m % 64 = m by omega, s1, s2, ← e3]
      exact hK
  · obtain ⟨e2, e3⟩ := nl (by omega)
    have hlt : 2 * r + b < n := by omega
    rw [hc, decide_eq_false g, if_neg (by decide), hnext, ← e2, ← e3, Int.emod_eq_of_lt (a := A / 2 ^ m % n) (b := 340282366920938463463374607431768211456) (by rw [e2]; omega) (by rw [e2]; omega)]
    exact hK
theorem j2_is_j1 (k : Nat) (x8 : Int) (x64 : Bool) (a0 a1 b0 b1 c0 c1 d0 d1 : Int) : wide_divided.j2 (k + 1) x8 x64 a0 a1 b0 b1 c0 c1 d0 d1 = wide_divided.j1 (k + 1) x8 x64 a0 a1 b0 b1 c0 c1 d0 d1 := by
  simp only [wide_divided.j1, wide_divided.j2]
theorem divided_from (A n : Int) (hA : 0 ≤ A) (hA' : A < 340282366920938463463374607431768211456) (hn : 0 < n) (hn' : n < 340282366920938463463374607431768211456) (m : Nat) : m ≤ 128 →
    Ev (fun k => wide_divided.l0 k ((m : Int) - 1) (A % 18446744073709551616) (A / 18446744073709551616) (n % 18446744073709551616) (n / 18446744073709551616)
      (A / 2 ^ m / n * 2 ^ m % 18446744073709551616) (A / 2 ^ m / n * 2 ^ m / 18446744073709551616) (A / 2 ^ m % n % 18446744073709551616) (A / 2 ^ m % n / 18446744073709551616))
      (A / n % 18446744073709551616, A / n / 18446744073709551616, A % n % 18446744073709551616, A % n / 18446744073709551616) := by
  induction m with
  | zero =>
    intro _
    refine ⟨1, fun k hk => ?_⟩
    obtain ⟨k, rfl⟩ : ∃ j, k = j + 1 := ⟨k - 1, by omega⟩
    simp only [wide_divided.l0]
    rw [if_neg (by decide), Int.pow_zero, Int.ediv_one, Int.mul_one]
  | succ m ih =>
    intro hm
    obtain ⟨K, hK⟩ := ih (by omega)
    refine ⟨K + 2, fun k hk => ?_⟩
    obtain ⟨k, rfl⟩ : ∃ j, k = j + 2 := ⟨k - 2, by omega⟩
    have hi : (((m + 1 : Nat) : Int) - 1) = m := by omega
    have sec := divided_second k A n _ _ m _ (by omega) hA hA' hn hn' rfl rfl (hK k (by omega))
    have hr0 := Int.emod_nonneg (A / 2 ^ (m + 1)) (show n ≠ 0 by omega)
    have hr1 := Int.emod_lt_of_pos (A / 2 ^ (m + 1)) hn
    have hb : A / 2 ^ m % 2 = 0 ∨ A / 2 ^ m % 2 = 1 := by clear sec hr0 hr1; omega
    obtain ⟨l1, l2, l3⟩ := twice_limbs (A / 2 ^ (m + 1) % n) (A / 2 ^ m % 2) hr0 (Int.lt_trans hr1 hn') hb
    obtain ⟨t1, t2, t3, t4⟩ := above_limbs (2 * (A / 2 ^ (m + 1) % n) + A / 2 ^ m % 2) n (by clear sec l1 l2 l3; omega) (by clear sec l1 l2 l3; omega) hn hn'
    clear hK ih
    show wide_divided.l0 (k + 2) _ _ _ _ _ _ _ _ _ = _
    simp only [wide_divided.l0]
    rw [hi, if_pos (by clear sec l1 l2 l3 t1 t2 t3 t4; omega), tdiv_at m (by omega), tmod_at]
    by_cases c6 : 64 ≤ m
    · rw [if_neg (by clear sec l1 l2 l3 t1 t2 t3 t4; omega), if_pos (by clear sec l1 l2 l3 t1 t2 t3 t4; omega), if_pos (by clear sec l1 l2 l3 t1 t2 t3 t4; omega), bit_high A m hA hA' c6 (by omega), l1, l2, l3]
      simp only [j2_is_j1]
      split
      · exact sec _ (decide_eq_true (t1 ‹_›)).symm
      · split
        · exact sec _ (decide_eq_true (t2 ‹_› ‹_›)).symm
        · split
          · exact sec _ (decide_eq_decide.2 (t3 ‹_› ‹_›))
          · exact sec _ (decide_eq_false (t4 ‹_› ‹_› ‹_›)).symm
    · rw [if_pos (by clear sec l1 l2 l3 t1 t2 t3 t4; omega), if_pos (by clear sec l1 l2 l3 t1 t2 t3 t4; omega), bit_low A m (by omega), l1, l2, l3]
      split
      · exact sec _ (decide_eq_true (t1 ‹_›)).symm
      · split
        · exact sec _ (decide_eq_true (t2 ‹_› ‹_›)).symm
        · split
          · exact sec _ (decide_eq_decide.2 (t3 ‹_› ‹_›))
          · exact sec _ (decide_eq_false (t4 ‹_› ‹_› ‹_›)).symm
theorem divided_is (A n : Int) (hA : 0 ≤ A) (hA' : A < 340282366920938463463374607431768211456) (hn : 0 < n) (hn' : n < 340282366920938463463374607431768211456) :
    Ev (fun k => wide_divided.f k (A % 18446744073709551616) (A / 18446744073709551616) (n % 18446744073709551616) (n / 18446744073709551616))
      (A / n % 18446744073709551616, A / n / 18446744073709551616, A % n % 18446744073709551616, A % n / 18446744073709551616) := by
  have e := divided_from A n hA hA' hn hn' 128 (by omega)
  have z : A / 2 ^ 128 = 0 := by
    rw [show (2 : Int) ^ 128 = 340282366920938463463374607431768211456 by decide]; omega
  rw [z] at e
  simp only [Int.zero_emod, Int.zero_ediv, Int.zero_mul] at e
  exact e
def bs (l : List UInt8) : ByteArray := ⟨l.toArray⟩
theorem bs_size (l : List UInt8) : (bs l).size = l.length := by simp [bs, ByteArray.size]
theorem bs_app (a b : List UInt8) : bs a ++ bs b = bs (a ++ b) := by
  apply ByteArray.ext; simp [bs]
theorem bs_list (l : List UInt8) : (bs l).toList = l := by
  rw [ByteArray.toList_eq]; simp [bs]
def dig (u : Nat) : UInt8 := UInt8.ofNat (48 + u)
theorem dec_small {u : Nat} (h : u < 10) : Lib.decDigits u = [dig u] := by rw [Lib.decDigits, dif_pos h]; rfl
theorem dec_big {u : Nat} (h : ¬ u < 10) : Lib.decDigits u = Lib.decDigits (u / 10) ++ [dig (u % 10)] := by rw [Lib.decDigits, dif_neg h]; rfl
theorem dec_len {u k : Nat} (h : u < 10 ^ (k + 1)) : (Lib.decDigits u).length ≤ k + 1 := by
  induction k generalizing u with
  | zero => rw [dec_small (by simpa using h)]; simp
  | succ k ih =>
    by_cases c : u < 10
    · rw [dec_small c]; simp
    · rw [dec_big c, List.length_append]
      have := ih (u := u / 10) (by rw [Nat.pow_succ] at h; omega)
      simp; omega
theorem dec_pos (u : Nat) : 1 ≤ (Lib.decDigits u).length := by rw [Lib.decDigits_length]; exact Lib.nDigits_pos u
def pad (k b : Nat) : List UInt8 := List.replicate (k - (Lib.decDigits b).length) 48 ++ Lib.decDigits b
theorem pad_one {b : Nat} (h : b < 10) : pad 1 b = [dig b] := by unfold pad; rw [dec_small h]; rfl
theorem pad_succ (k b : Nat) (hk : 1 ≤ k) (h : b < 10 ^ (k + 1)) : pad (k + 1) b = pad k (b / 10) ++ [dig (b % 10)] := by
  unfold pad
  by_cases c : b < 10
  · rw [dec_small c, show b / 10 = 0 by omega, show b % 10 = b by omega, dec_small (by decide)]
    simp only [List.length_singleton]
    rw [show k + 1 - 1 = (k - 1) + 1 by omega, List.replicate_succ', List.append_assoc, List.append_assoc]
    rfl
  · have hl := dec_pos (b / 10)
    rw [dec_big c, List.length_append, List.append_assoc]
    simp only [List.length_singleton]
    rw [show k + 1 - ((Lib.decDigits (b / 10)).length + 1) = k - (Lib.decDigits (b / 10)).length by omega]
theorem dec_split (a k b : Nat) (ha : 0 < a) (hk : 1 ≤ k) (h : b < 10 ^ k) : Lib.decDigits (a * 10 ^ k + b) = Lib.decDigits a ++ pad k b := by
  obtain ⟨k, rfl⟩ : ∃ j, k = j + 1 := ⟨k - 1, by omega⟩
  induction k generalizing b with
  | zero =>
    have h : b < 10 := by simpa using h
    simp only [Nat.zero_add, Nat.pow_one]
    rw [dec_big (by omega), show (a * 10 + b) / 10 = a by omega, show (a * 10 + b) % 10 = b by omega, pad_one h]
  | succ k ih =>
    have hp : 1 ≤ 10 ^ (k + 1) := Nat.one_le_pow _ _ (by decide)
    have hm : a * 10 ^ (k + 1) ≥ 10 ^ (k + 1) := Nat.le_mul_of_pos_left _ ha
    have e : a * 10 ^ (k + 1 + 1) = (a * 10 ^ (k + 1)) * 10 := by rw [Nat.pow_succ, Nat.mul_assoc]
    rw [pad_succ (k + 1) b (by omega) h, ← List.append_assoc, ← ih (b / 10) (by omega) (by rw [Nat.pow_succ] at h; omega), e]
    have hb : 10 ≤ 10 ^ (k + 1) := by rw [Nat.pow_succ]; have : 1 ≤ 10 ^ k := Nat.one_le_pow _ _ (by decide); omega
    rw [dec_big (by omega), show (a * 10 ^ (k + 1) * 10 + b) / 10 = a * 10 ^ (k + 1) + b / 10 by omega, show (a * 10 ^ (k + 1) * 10 + b) % 10 = b % 10 by omega]
theorem repeat_zero (n : Nat) : Lib.repeatL [48] n = List.replicate n 48 := by
  have := Lib.repeatL_replicate 48 1 n
  simpa using this
theorem fmt_is (u : Int) (hu : U u) : strconv_FormatUint.f u 10 = some (bs (Lib.decDigits u.toNat)) := by
  unfold strconv_FormatUint.f
  rw [if_pos ⟨hu.1, hu.2, rfl⟩]; rfl
theorem rep_is (n : Nat) (hn : n ≤ 1000) : strings_Repeat.f (⟨#[48]⟩ : ByteArray) (n : Int) = some (bs (List.replicate n 48)) := by
  unfold strings_Repeat.f
  rw [if_pos ⟨by omega, by omega, by decide⟩, Int.toNat_natCast, show (⟨#[48]⟩ : ByteArray).data.toList = [48] from rfl, repeat_zero]; rfl
def sgn (h : Int) : List UInt8 := if h < 0 then [45] else []
theorem minus_is (s : List UInt8) : (⟨#[45]⟩ : ByteArray) ++ bs s = bs (45 :: s) := bs_app [45] s
theorem WPrint_from (h l : Int) (j : Nat) : ∀ (M : Int) (s : List UInt8), 0 ≤ M → M < 340282366920938463463374607431768211456 → M < 10 ^ (19 * j) → s.length + 19 * j ≤ 1000 →
    Ev (fun k => wide_Print.l0 k (bs s) h l (M % 18446744073709551616) (M / 18446744073709551616)) (bs (sgn h ++ (Lib.decDigits M.toNat ++ s))) := by
  induction j with
  | zero =>
    intro M s h0 h1 h2 h3
    have : M = 0 := by simp at h2; omega
    subst this
    obtain ⟨K, hK⟩ := divided_is 0 10000000000000000000 (by omega) (by omega) (by omega) (by omega)
    refine ⟨K + 1, fun k hk => ?_⟩
    obtain ⟨k, rfl⟩ : ∃ j, k = j + 1 := ⟨k - 1, by omega⟩
    have e := hK k (by omega)
    simp only [show (10000000000000000000 : Int) % 18446744073709551616 = 10000000000000000000 by decide, show (10000000000000000000 : Int) / 18446744073709551616 = 0 by decide, show (0 : Int) / 10000000000000000000 = 0 by decide, show (0 : Int) % 10000000000000000000 = 0 by decide, show (0 : Int) / 18446744073709551616 = 0 by decide, show (0 : Int) % 18446744073709551616 = 0 by decide] at e
    simp only [wide_Print.l0, show (0 : Int) / 18446744073709551616 = 0 by decide, show (0 : Int) % 18446744073709551616 = 0 by decide, e, Option.bind_some]
    rw [fmt_is 0 (by unfold U; omega)]
    simp only [Option.bind_some, if_true]
    rw [bs_app, bs_size, bs_size, bs_size]
    have hl : (Lib.decDigits (0 : Int).toNat).length ≤ 1 := dec_len (k := 0) (by decide)
    rw [if_pos (by omega), minus_is]
    unfold sgn
    by_cases c : h < 0
    · rw [if_pos c, if_pos (by rw [List.length_append]; omega), if_pos c]; rfl
    · rw [if_neg c, if_neg c]; rfl
  | succ j ih =>
    intro M s h0 h1 h2 h3
    obtain ⟨K, hK⟩ := divided_is M 10000000000000000000 h0 h1 (by omega) (by omega)
    simp only [show (10000000000000000000 : Int) % 18446744073709551616 = 10000000000000000000 by decide, show (10000000000000000000 : Int) / 18446744073709551616 = 0 by decide] at hK
    have er : M % 10000000000000000000 % 18446744073709551616 = M % 10000000000000000000 := by omega
    have ur : U (M % 10000000000000000000) := by unfold U; omega
    have hl : (Lib.decDigits (M % 10000000000000000000).toNat).length ≤ 19 := dec_len (k := 18) (by
      rw [show (10 : Nat) ^ (18 + 1) = 10000000000000000000 by decide]; omega)
    have hp := dec_pos (M % 10000000000000000000).toNat
    have ew : wrap64 (19 - ((Lib.decDigits (M % 10000000000000000000).toNat).length : Int)) = ((19 - (Lib.decDigits (M % 10000000000000000000).toNat).length : Nat) : Int) := by unfold wrap64; omega
    by_cases c : M / 10000000000000000000 = 0
    · refine ⟨K + 1, fun k hk => ?_⟩
      obtain ⟨k, rfl⟩ : ∃ j, k = j + 1 := ⟨k - 1, by omega⟩
      have e := hK k (by omega)
      have eM : M % 10000000000000000000 = M := by omega
      rw [eM] at hl hp ur
      simp only [c, show (0 : Int) / 18446744073709551616 = 0 by decide, show (0 : Int) % 18446744073709551616 = 0 by decide, er, eM] at e
      simp only [wide_Print.l0, e, Option.bind_some]
      rw [show M % 18446744073709551616 = M by unfold U at ur; omega, fmt_is M ur]
      simp only [Option.bind_some, if_true]
      rw [bs_app, bs_size, bs_size, bs_size, if_pos (by omega), minus_is]
      unfold sgn
      by_cases c : h < 0
      · rw [if_pos c, if_pos (by rw [List.length_append]; omega), if_pos c]; rfl
      · rw [if_neg c, if_neg c]; rfl
    · have q0 : 0 < M / 10000000000000000000 := by omega
      obtain ⟨K', hK'⟩ := ih (M / 10000000000000000000) (pad 19 (M % 10000000000000000000).toNat ++ s) (by omega) (by omega) (by
          rw [show 19 * (j + 1) = 19 * j + 19 by omega, Int.pow_add, show (10 : Int) ^ 19 = 10000000000000000000 by decide] at h2
          exact Int.ediv_lt_of_lt_mul (by decide) h2) (by
          unfold pad
          rw [List.length_append, List.length_append, List.length_replicate]; omega)
      have eD : Lib.decDigits (M / 10000000000000000000).toNat ++ (pad 19 (M % 10000000000000000000).toNat ++ s) = Lib.decDigits M.toNat ++ s := by
        rw [← List.append_assoc, ← dec_split _ 19 _ (by omega) (by decide) (by rw [show (10 : Nat) ^ 19 = 10000000000000000000 by decide]; omega)]
        congr 2
        rw [show (10 : Nat) ^ 19 = 10000000000000000000 by decide]; omega
      rw [eD] at hK'
      refine ⟨max K K' + 1, fun k hk => ?_⟩
      obtain ⟨k, rfl⟩ : ∃ j, k = j + 1 := ⟨k - 1, by omega⟩
      have e := hK k (by omega)
      have e' := hK' k (by omega)
      simp only [er] at e
      simp only at e'
      have tail : (if (bs (List.replicate (19 - (Lib.decDigits (M % 10000000000000000000).toNat).length) 48)).size + (bs (Lib.decDigits (M % 10000000000000000000).toNat)).size ≤ 9223372036854775807 then (if (bs (List.replicate (19 - (Lib.decDigits (M % 10000000000000000000).toNat).length) 48) ++ bs (Lib.decDigits (M % 10000000000000000000).toNat)).size + (bs s).size ≤ 9223372036854775807 then (wide_Print.l0 k ((bs (List.replicate (19 - (Lib.decDigits (M % 10000000000000000000).toNat).length) 48) ++ bs (Lib.decDigits (M % 10000000000000000000).toNat)) ++ bs s) h l (M / 10000000000000000000 % 18446744073709551616) (M / 10000000000000000000 / 18446744073709551616)) else (none)) else (none)) = some (bs (sgn h ++ (Lib.decDigits M.toNat ++ s))) := by
        rw [bs_app, bs_app, bs_size, bs_size, bs_size, bs_size, List.length_append, List.length_replicate, if_pos (by omega), if_pos (by omega)]
        exact e'
      simp only [wide_Print.l0, e, Option.bind_some]
      rw [fmt_is _ ur]
      simp only [Option.bind_some]
      rw [bs_size, ew, rep_is _ (by omega)]
      simp only [Option.bind_some]
      rw [bs_size] at tail
      by_cases d : M / 10000000000000000000 % 18446744073709551616 = 0
      · rw [if_pos d, if_neg (by omega)]; exact tail
      · rw [if_neg d]; exact tail
theorem sgn_itoa (h l : Int) (hl : U l) : sgn h ++ (Lib.decDigits (mag (h * 18446744073709551616 + l)).toNat ++ []) = Lib.itoa (h * 18446744073709551616 + l) := by
  unfold sgn Lib.itoa U at *
  rw [List.append_nil]
  by_cases c : h < 0
  · rw [if_pos c, if_pos (by omega), mag_neg (by omega), show (-(h * 18446744073709551616 + l)).toNat = (h * 18446744073709551616 + l).natAbs by omega]; rfl
  · rw [if_neg c, if_neg (by omega), mag_pos (by omega)]; rfl
theorem WPrint_is (h l : Int) (hh : Hi h) (hl : U l) : Ev (fun k => wide_Print.f k h l) (bs (Lib.itoa (h * 18446744073709551616 + l))) := by
  have m := mag_lt h l hh hl
  have n := mag_nonneg (h * 18446744073709551616 + l)
  simp only [wide_Print.f]
  rw [amount_is h l hh hl, ← sgn_itoa h l hl]
  simp only [Option.bind_some]
  exact WPrint_from h l 3 _ [] n (by omega) (by rw [show (10 : Int) ^ (19 * 3) = 1000000000000000000000000000000000000000000000000000000000 by decide]; omega) (by simp)
theorem alive_is : Ev (fun k => tumblerlaw01_alive.f k) true := by
  obtain ⟨K1, h1⟩ := Mul_is (-1) 18446744073709551609 0 6 (by unfold Hi; omega) (by unfold U; omega) (by unfold Hi; omega) (by unfold U; omega)
  obtain ⟨K2, h2⟩ := WPrint_is (-1) 18446744073709551574 (by unfold Hi; omega) (by unfold U; omega)
  refine ⟨max K1 K2, fun k hk => ?_⟩
  have e1 := h1 k (by omega)
  have e2 := h2 k (by omega)
  rw [show wenc ((-1 * 18446744073709551616 + 18446744073709551609) * (0 * 18446744073709551616 + 6)) = (-1, 18446744073709551574, 0) by decide] at e1
  have e3 : Lib.itoa (-1 * 18446744073709551616 + 18446744073709551574) = [45, 52, 50] := by
    rw [show (-1 * 18446744073709551616 + 18446744073709551574 : Int) = -42 by decide]
    unfold Lib.itoa
    rw [if_pos (by decide), show Int.natAbs (-42) = 42 by decide, dec_big (by decide), dec_small (by decide)]
    decide
  rw [e3] at e2
  simp only at e1 e2
  simp only [tumblerlaw01_alive.f]
  rw [WOf_is (-7) (by unfold Hi; omega), WOf_is 6 (by unfold Hi; omega)]
  simp only [Option.bind_some, show (-7 : Int) / 18446744073709551616 = -1 by decide, show (-7 : Int) % 18446744073709551616 = 18446744073709551609 by decide, show (6 : Int) / 18446744073709551616 = 0 by decide, show (6 : Int) % 18446744073709551616 = 6 by decide, e1, e2, bs_list, if_true]
  rw [WSign_is _ _ (by unfold U; omega)]
  rfl
theorem enc_parts {v : Int} (h : -170141183460469231731687303715884105728 ≤ v ∧ v < 170141183460469231731687303715884105728) : Hi (v / 18446744073709551616) ∧ U (v % 18446744073709551616) := by
  unfold Hi U; omega
theorem wide_in (h l : Int) (hh : Hi h) (hl : U l) : -170141183460469231731687303715884105728 ≤ h * 18446744073709551616 + l ∧ h * 18446744073709551616 + l < 170141183460469231731687303715884105728 := by
  unfold Hi U at *; omega
theorem parts_of (h l : Int) (hl : U l) : (h * 18446744073709551616 + l) / 18446744073709551616 = h ∧ (h * 18446744073709551616 + l) % 18446744073709551616 = l := by
  unfold U at hl; omega
def wquo (v w : Int) : Int × Int × Int × Int × Int :=
  if Int.tdiv v w < 170141183460469231731687303715884105728 then (Int.tdiv v w / 18446744073709551616, Int.tdiv v w % 18446744073709551616, Int.tmod v w / 18446744073709551616, Int.tmod v w % 18446744073709551616, 0) else (0, 0, 0, 0, 10)
theorem Quo_is (h l h' l' : Int) (hh : Hi h) (hl : U l) (hh' : Hi h') (hl' : U l') (h0 : h' * 18446744073709551616 + l' ≠ 0) :
    Ev (fun k => wide_Quo.f k h l h' l') (wquo (h * 18446744073709551616 + l) (h' * 18446744073709551616 + l')) := by
  obtain ⟨e1, e2⟩ := tdiv_mag (h * 18446744073709551616 + l) (h' * 18446744073709551616 + l') h0
  have m1 := mag_lt h l hh hl
  have m2 := mag_lt h' l' hh' hl'
  have n1 := mag_nonneg (h * 18446744073709551616 + l)
  have n2 : 0 < mag (h' * 18446744073709551616 + l') := by unfold mag; split <;> omega
  obtain ⟨K, hK⟩ := divided_is (mag (h * 18446744073709551616 + l)) (mag (h' * 18446744073709551616 + l')) n1 (by omega) n2 (by omega)
  refine ⟨K + 1, fun k hk => ?_⟩
  have hKk := hK k (by omega)
  obtain ⟨k, rfl⟩ : ∃ j, k = j + 1 := ⟨k - 1, by omega⟩
  clear hK
  unfold wquo
  rw [e1, e2, ← Hi_neg h l hl, ← Hi_neg h' l' hl']
  simp only [wide_Quo.f]
  have hz : ¬ (h' == 0 && (l' == 0)) = true := by
    simp only [Bool.and_eq_true, beq_iff_eq]; omega
  rw [if_neg hz, amount_is h l hh hl, amount_is h' l' hh' hl']
  simp only [Option.bind_some]
  clear e1 e2 hz h0
  generalize mag (h * 18446744073709551616 + l) = M at *
  generalize mag (h' * 18446744073709551616 + l') = N at *
  simp only [hKk, Option.bind_some]
  have q0 : 0 ≤ M / N := Int.ediv_nonneg n1 (Int.le_of_lt n2)
  have q1 : M / N ≤ M := Int.ediv_le_self _ n1
  have r0 : 0 ≤ M % N := Int.emod_nonneg _ (by omega)
  have r1 : M % N < N := Int.emod_lt_of_pos _ n2
  rw [signed_at k _ _ _ (U_mod _) (U_div _ q0 (by omega)), U_join, wsigned_enc _ _ q0]
  simp only [Option.bind_some]
  generalize (decide (h < 0) != decide (h' < 0)) = s
  generalize decide (h < 0) = t
  generalize M / N = q at *
  rw [signed_at k _ _ _ (U_mod _) (U_div _ r0 (by omega)), U_join, wsigned_enc _ _ r0]
  simp only [Option.bind_some]
  generalize M % N = r at *
  by_cases c : (if s = true then -q else q) < 170141183460469231731687303715884105728
  · rw [wenc_in (by cases s <;> simp only [Bool.false_eq_true, if_false, if_true] at * <;> omega), if_pos c, if_pos rfl, wenc_in (by cases t <;> simp only [Bool.false_eq_true, if_false, if_true] <;> omega)]
  · rw [wenc_out (by omega), if_neg c, if_neg (by decide)]
theorem div_facts (v w : Int) (hw : w ≠ 0) : Int.tdiv v w * w + Int.tmod v w = v ∧ mag (Int.tmod v w) < mag w ∧ (Int.tmod v w = 0 ∨ (0 < Int.tmod v w ∧ 0 < v) ∨ (Int.tmod v w < 0 ∧ v < 0)) ∧ mag (Int.tmod v w) ≤ mag v := by
  obtain ⟨e1, e2⟩ := tdiv_mag v w hw
  have e := Int.tmod_def v w
  have h1 : Int.tdiv v w * w + Int.tmod v w = v := by rw [e, Int.mul_comm w]; omega
  refine ⟨h1, ?_⟩
  have mw : 0 < mag w := by unfold mag; split <;> omega
  have r0 := Int.emod_nonneg (mag v) (show mag w ≠ 0 by omega)
  have r1 := Int.emod_lt_of_pos (mag v) mw
  have r2 : mag v % mag w ≤ mag v := by
    rcases Int.lt_or_le (mag v) (mag w) with g | g
    · rw [Int.emod_eq_of_lt (mag_nonneg v) g]; omega
    · omega
  rw [e2]
  generalize mag v % mag w = r at *
  by_cases c : v < 0
  · rw [if_pos (decide_eq_true c)]
    have : mag (-r) = r := by unfold mag; split <;> omega
    rw [this]
    exact ⟨r1, by omega, r2⟩
  · rw [if_neg (by simpa using c), mag_pos r0]
    refine ⟨r1, ?_, r2⟩
    rcases Int.lt_or_le 0 v with g | g
    · omega
    · have : v = 0 := by omega
      subst this
      have : mag (0 : Int) = 0 := rfl
      omega
theorem quo_over (v w : Int) (hv : mag v ≤ 170141183460469231731687303715884105728) (hv' : v < 170141183460469231731687303715884105728) (hw : w ≠ 0) (h : ¬ Int.tdiv v w < 170141183460469231731687303715884105728) : v = -170141183460469231731687303715884105728 ∧ w = -1 := by
  obtain ⟨e1, _⟩ := tdiv_mag v w hw
  have mw : 0 < mag w := by unfold mag; split <;> omega
  have q1 : mag v / mag w ≤ mag v := Int.ediv_le_self _ (mag_nonneg v)
  have q0 : 0 ≤ mag v / mag w := Int.ediv_nonneg (mag_nonneg v) (by omega)
  rw [e1] at h
  have hm : mag w = 1 := by
    by_cases c : mag w = 1
    · exact c
    · exfalso
      have : mag v / mag w < 170141183460469231731687303715884105728 := Int.ediv_lt_of_lt_mul mw (by
        have : 170141183460469231731687303715884105728 * 2 ≤ 170141183460469231731687303715884105728 * mag w := Int.mul_le_mul_of_nonneg_left (by omega) (by decide)
        omega)
      split at h <;> omega
  rw [hm, Int.ediv_one] at h
  unfold mag at *
  by_cases c : v < 0 <;> by_cases d : w < 0 <;> simp only [c, d, decide_true, decide_false, if_true, if_false, bne_self_eq_false, Bool.false_eq_true, Bool.true_bne, Bool.false_bne, Bool.not_false] at * <;> omega
theorem divides_j (h l : Int) (hh : Hi h) (hl : U l) (r : Int) (hr : mag r < mag (h * 18446744073709551616 + l)) :
    Ev (fun k => tumblerlaw01_WideDivides.j0 k false h l (r / 18446744073709551616) (r % 18446744073709551616)) true := by
  have m := mag_lt h l hh hl
  have n := mag_nonneg r
  have rr : -170141183460469231731687303715884105728 ≤ r ∧ r < 170141183460469231731687303715884105728 := by unfold mag at hr m; split at hr <;> omega
  obtain ⟨p1, p2⟩ := enc_parts rr
  refine ⟨1, fun k hk => ?_⟩
  obtain ⟨k, rfl⟩ : ∃ j, k = j + 1 := ⟨k - 1, by omega⟩
  have a1 := WAbs_is _ _ p1 p2
  have a2 := WAbs_is h l hh hl
  rw [U_join, wenc_in (by omega)] at a1
  simp only [tumblerlaw01_WideDivides.j0, Bool.false_eq_true, if_false, a1, a2, Option.bind_some, if_true]
  by_cases c : mag (h * 18446744073709551616 + l) < 170141183460469231731687303715884105728
  · rw [wenc_in (by omega)]
    simp only [if_true]
    rw [WCmp_is _ _ _ _ (U_mod _) (U_mod _), U_join, U_join, cmp_lt hr]
    rfl
  · rw [wenc_out (by omega)]
    rfl
theorem WideDivides : tumblerlaw01_WideDivides.Pure := by
  intro h l h' l' hh hl hh' hl'
  have hh : Hi h := wf_i64 hh
  have hl : U l := wf_u64 hl
  have hh' : Hi h' := wf_i64 hh'
  have hl' : U l' := wf_u64 hl'
  refine Ev_rounds (g := fun k => tumblerlaw01_WideDivides.f k h l h' l') ?_
  by_cases z : h' = 0 ∧ l' = 0
  · obtain ⟨rfl, rfl⟩ := z
    have q : ∀ k, wide_Quo.f k h l 0 0 = some (0, 0, 0, 0, 11) := fun k => by
      simp only [wide_Quo.f]; rfl
    simp only [tumblerlaw01_WideDivides.f, q, Option.bind_some, beq_self_eq_true, Bool.and_self, if_true]
    exact Ev.bind alive_is (Ev.now _)
  · have w0 : h' * 18446744073709551616 + l' ≠ 0 := by unfold U at hl'; omega
    have q := Quo_is h l h' l' hh hl hh' hl' w0
    obtain ⟨d1, d2, d3, d4⟩ := div_facts (h * 18446744073709551616 + l) (h' * 18446744073709551616 + l') w0
    have wi := wide_in h l hh hl
    have wi' := wide_in h' l' hh' hl'
    have hm := mag_lt h l hh hl
    have hm' := mag_lt h' l' hh' hl'
    have zb : ¬ (h' == 0 && (l' == 0)) = true := by simpa using z
    simp only [tumblerlaw01_WideDivides.f]
    refine Ev.bind q ?_
    simp only [zb, if_false]
    unfold wquo
    by_cases c : Int.tdiv (h * 18446744073709551616 + l) (h' * 18446744073709551616 + l') < 170141183460469231731687303715884105728
    · rw [if_pos c]
      have qlo : -170141183460469231731687303715884105728 ≤ Int.tdiv (h * 18446744073709551616 + l) (h' * 18446744073709551616 + l') := by
        obtain ⟨e1, _⟩ := tdiv_mag (h * 18446744073709551616 + l) (h' * 18446744073709551616 + l') w0
        have q1 : mag (h * 18446744073709551616 + l) / mag (h' * 18446744073709551616 + l') ≤ mag (h * 18446744073709551616 + l) := Int.ediv_le_self _ (mag_nonneg _)
        have q0 : 0 ≤ mag (h * 18446744073709551616 + l) / mag (h' * 18446744073709551616 + l') := Int.ediv_nonneg (mag_nonneg _) (mag_nonneg _)
        rw [e1]
        split <;> omega
      have hj := divides_j h' l' hh' hl' _ d2
      obtain ⟨pa, pb⟩ := parts_of h l hl
      have sg := WSign_is h l hl
      obtain ⟨p1, p2⟩ := enc_parts (v := Int.tdiv (h * 18446744073709551616 + l) (h' * 18446744073709551616 + l')) ⟨qlo, c⟩
      have m1 := Mul_is _ _ h' l' p1 p2 hh' hl'
      rw [U_join] at m1
      have rr : -170141183460469231731687303715884105728 ≤ Int.tmod (h * 18446744073709551616 + l) (h' * 18446744073709551616 + l') ∧ Int.tmod (h * 18446744073709551616 + l) (h' * 18446744073709551616 + l') < 170141183460469231731687303715884105728 := by
        clear d1 m1 hj p1 p2 qlo c pa pb sg
        unfold mag at d4 hm
        split at d4 <;> split at d4 <;> omega
      obtain ⟨r1, r2⟩ := enc_parts rr
      have pr : -170141183460469231731687303715884105728 ≤ Int.tdiv (h * 18446744073709551616 + l) (h' * 18446744073709551616 + l') * (h' * 18446744073709551616 + l') ∧ Int.tdiv (h * 18446744073709551616 + l) (h' * 18446744073709551616 + l') * (h' * 18446744073709551616 + l') < 170141183460469231731687303715884105728 := by
        clear m1 hj p1 p2 r1 r2 pa pb sg
        unfold mag at d4
        split at d4 <;> split at d4 <;> omega
      rw [wenc_in pr] at m1
      obtain ⟨s1, s2⟩ := enc_parts pr
      have a1 := WAdd_is _ _ _ _ s1 s2 r1 r2
      rw [U_join, U_join, d1, wenc_in wi, pa, pb] at a1
      have sr := WSign_is (Int.tmod (h * 18446744073709551616 + l) (h' * 18446744073709551616 + l') / 18446744073709551616) _ r2
      rw [U_join] at sr
      simp only [if_true]
      refine Ev.bind m1 ?_
      simp only [a1, Option.bind_some, if_true, beq_self_eq_true, Bool.not_true, Bool.or_self, Bool.false_eq_true, if_false, sr, sg]
      by_cases t : Int.tmod (h * 18446744073709551616 + l) (h' * 18446744073709551616 + l') = 0
      · rw [cmp_eq t]
        simp only [if_true]
        refine Ev.bind alive_is ?_
        exact hj
      · have e : cmp (Int.tmod (h * 18446744073709551616 + l) (h' * 18446744073709551616 + l')) 0 = cmp (h * 18446744073709551616 + l) 0 ∧ cmp (Int.tmod (h * 18446744073709551616 + l) (h' * 18446744073709551616 + l')) 0 ≠ 0 := by
          rcases d3 with g | ⟨g, g'⟩ | ⟨g, g'⟩
          · exact absurd g t
          · rw [cmp_gt g, cmp_gt g']; decide
          · rw [cmp_lt g, cmp_lt g']; decide
        simp only [e.2, e.1, if_false, if_true]
        have e2 : ¬ cmp (h * 18446744073709551616 + l) 0 = 0 := by rw [← e.1]; exact e.2
        simp only [e2, if_false]
        refine Ev.bind alive_is ?_
        exact hj
    · rw [if_neg c]
      obtain ⟨e1, e2⟩ := quo_over _ _ hm wi.2 w0 c
      have ng := WNeg_is h l hh hl
      rw [e1, wenc_out (by decide)] at ng
      have oo : wide_Of.f (-1) = some (-1, 18446744073709551615) := by rw [WOf_is (-1) (by unfold Hi; omega)]; rfl
      have hb : h' = -1 ∧ l' = 18446744073709551615 := by unfold U at hl'; omega
      simp only [show ¬ ((10 : Int) = 0) by decide, if_false, ng, Option.bind_some, if_true, beq_self_eq_true, Bool.and_self, oo, hb.1, hb.2]
      exact Ev.bind alive_is (Ev.now _)
end Go.Proofs.YtcfhmbhlibhlnaaDoor.MM
