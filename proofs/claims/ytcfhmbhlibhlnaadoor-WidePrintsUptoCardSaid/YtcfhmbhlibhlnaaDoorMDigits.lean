/- The decimal numeral in pieces. -/
import Derived.Test.YtcfhmbhlibhlnaaDoorMWords
namespace Go.Proofs.YtcfhmbhlibhlnaaDoor.MM
open Go.RowKit Go.Proofs.YtcfhmbhlibhlnaaDoor.P Go.Proofs.YtcfhmbhlibhlnaaDoorW.PrintWords Go.Proofs.YtcfhmbhlibhlnaaDoorW.PrintMore Go.Proofs.YtcfhmbhlibhlnaaDoor.Mine
set_option linter.unusedVariables false
set_option linter.unusedSimpArgs false

/-- A text of a list of bytes. -/
def bs (l : List UInt8) : ByteArray := ⟨l.toArray⟩
theorem bs_size (l : List UInt8) : (bs l).size = l.length := by simp [bs, ByteArray.size]
theorem bs_app (a b : List UInt8) : bs a ++ bs b = bs (a ++ b) := by
  apply ByteArray.ext; simp [bs]
theorem bs_inj {a b : List UInt8} (h : bs a = bs b) : a = b := by
  have := congrArg (fun x : ByteArray => x.data.toList) h
  simpa [bs] using this
theorem bs_of (s : ByteArray) : bs s.data.toList = s := by
  apply ByteArray.ext; simp [bs]
theorem bs_list (l : List UInt8) : (bs l).toList = l := by
  rw [ByteArray.toList_eq]; simp [bs]
/-- The digit of a number below ten. -/
def dig (u : Nat) : UInt8 := UInt8.ofNat (48 + u)
theorem dec_small {u : Nat} (h : u < 10) : Lib.decDigits u = [dig u] := by rw [Lib.decDigits, dif_pos h]; rfl
theorem dec_big {u : Nat} (h : ¬ u < 10) : Lib.decDigits u = Lib.decDigits (u / 10) ++ [dig (u % 10)] := by rw [Lib.decDigits, dif_neg h]; rfl
theorem dec_len {u k : Nat} (h : u < 10 ^ (k + 1)) : (Lib.decDigits u).length ≤ k + 1 := by
  induction k generalizing u with
  | zero => rw [dec_small (by simpa using h)]; simp
  | succ k ih =>
    by_cases c : u < 10
    · rw [dec_small c]; simp
    · rw [dec_big c, List.length_append]
      have := ih (u := u / 10) (by rw [Nat.pow_succ] at h; omega)
      simp; omega
theorem dec_pos (u : Nat) : 1 ≤ (Lib.decDigits u).length := by rw [Lib.decDigits_length]; exact Lib.nDigits_pos u
/-- A numeral with 0 ahead, k digits in all. -/
def pad (k b : Nat) : List UInt8 := List.replicate (k - (Lib.decDigits b).length) 48 ++ Lib.decDigits b
theorem pad_one {b : Nat} (h : b < 10) : pad 1 b = [dig b] := by unfold pad; rw [dec_small h]; rfl
theorem pad_succ (k b : Nat) (hk : 1 ≤ k) (h : b < 10 ^ (k + 1)) : pad (k + 1) b = pad k (b / 10) ++ [dig (b % 10)] := by
  unfold pad
  by_cases c : b < 10
  · rw [dec_small c, show b / 10 = 0 by omega, show b % 10 = b by omega, dec_small (by decide)]
    simp only [List.length_singleton]
    rw [show k + 1 - 1 = (k - 1) + 1 by omega, List.replicate_succ', List.append_assoc, List.append_assoc]
    rfl
  · have hl := dec_pos (b / 10)
    rw [dec_big c, List.length_append, List.append_assoc]
    simp only [List.length_singleton]
    rw [show k + 1 - ((Lib.decDigits (b / 10)).length + 1) = k - (Lib.decDigits (b / 10)).length by omega]
theorem dec_split (a k b : Nat) (ha : 0 < a) (hk : 1 ≤ k) (h : b < 10 ^ k) : Lib.decDigits (a * 10 ^ k + b) = Lib.decDigits a ++ pad k b := by
  obtain ⟨k, rfl⟩ : ∃ j, k = j + 1 := ⟨k - 1, by omega⟩
  induction k generalizing b with
  | zero =>
    have h : b < 10 := by simpa using h
    simp only [Nat.zero_add, Nat.pow_one]
    rw [dec_big (by omega), show (a * 10 + b) / 10 = a by omega, show (a * 10 + b) % 10 = b by omega, pad_one h]
  | succ k ih =>
    have hp : 1 ≤ 10 ^ (k + 1) := Nat.one_le_pow _ _ (by decide)
    have hm : a * 10 ^ (k + 1) ≥ 10 ^ (k + 1) := Nat.le_mul_of_pos_left _ ha
    have e : a * 10 ^ (k + 1 + 1) = (a * 10 ^ (k + 1)) * 10 := by rw [Nat.pow_succ, Nat.mul_assoc]
    rw [pad_succ (k + 1) b (by omega) h, ← List.append_assoc, ← ih (b / 10) (by omega) (by rw [Nat.pow_succ] at h; omega), e]
    have hb : 10 ≤ 10 ^ (k + 1) := by rw [Nat.pow_succ]; have : 1 ≤ 10 ^ k := Nat.one_le_pow _ _ (by decide); omega
    rw [dec_big (by omega), show (a * 10 ^ (k + 1) * 10 + b) / 10 = a * 10 ^ (k + 1) + b / 10 by omega, show (a * 10 ^ (k + 1) * 10 + b) % 10 = b % 10 by omega]
theorem repeat_zero (n : Nat) : Lib.repeatL [48] n = List.replicate n 48 := by
  have := Lib.repeatL_replicate 48 1 n
  simpa using this
/-- A numeral tells its number. -/
def decVal (l : List UInt8) : Nat := l.foldl (fun n c => n * 10 + (c.toNat - 48)) 0
theorem decVal_snoc (l : List UInt8) (c : UInt8) : decVal (l ++ [c]) = decVal l * 10 + (c.toNat - 48) := by simp [decVal]
theorem dig_toNat {u : Nat} (h : u < 10) : (dig u).toNat = 48 + u := by
  unfold dig; rw [UInt8.toNat_ofNat']; omega
theorem decVal_dec (u : Nat) : decVal (Lib.decDigits u) = u := by
  induction u using Nat.strongRecOn with
  | ind u ih =>
    by_cases c : u < 10
    · rw [dec_small c]; simp [decVal, dig_toNat c]
    · rw [dec_big c, decVal_snoc, ih _ (by omega), dig_toNat (by omega)]; omega
theorem dec_inj {a b : Nat} (h : Lib.decDigits a = Lib.decDigits b) : a = b := by
  rw [← decVal_dec a, h, decVal_dec]
theorem dec_digit (u : Nat) : ∀ c ∈ Lib.decDigits u, 48 ≤ c.toNat ∧ c.toNat ≤ 57 := by
  induction u using Nat.strongRecOn with
  | ind u ih =>
    intro x hx
    by_cases c : u < 10
    · rw [dec_small c] at hx; simp at hx; subst hx; rw [dig_toNat c]; omega
    · rw [dec_big c] at hx
      rcases List.mem_append.1 hx with hx | hx
      · exact ih _ (by omega) x hx
      · simp at hx; subst hx; rw [dig_toNat (by omega)]; omega
/-- No 0 ahead, but for 0 itself. -/
theorem dec_head (u : Nat) (h : 0 < u) : ∃ c l, Lib.decDigits u = c :: l ∧ 49 ≤ c.toNat := by
  induction u using Nat.strongRecOn with
  | ind u ih =>
    by_cases c : u < 10
    · exact ⟨dig u, [], dec_small c, by rw [dig_toNat c]; omega⟩
    · obtain ⟨x, l, e, hx⟩ := ih (u / 10) (by omega) (by omega)
      exact ⟨x, l ++ [dig (u % 10)], by rw [dec_big c, e]; rfl, hx⟩
theorem dec_lower (u : Nat) (h : 0 < u) : 10 ^ ((Lib.decDigits u).length - 1) ≤ u := by
  induction u using Nat.strongRecOn with
  | ind u ih =>
    by_cases c : u < 10
    · rw [dec_small c]; simp; omega
    · have hp := dec_pos (u / 10)
      have := ih (u / 10) (by omega) (by omega)
      rw [dec_big c, List.length_append, List.length_singleton, show (Lib.decDigits (u / 10)).length + 1 - 1 = ((Lib.decDigits (u / 10)).length - 1) + 1 by omega, Nat.pow_succ]
      omega
/-- Digit by digit. -/
theorem dec_of (l : List UInt8) (hd : ∀ c ∈ l, 48 ≤ c.toNat ∧ c.toNat ≤ 57) (h0 : l ≠ []) (h : l.length = 1 ∨ ∃ c m, l = c :: m ∧ 49 ≤ c.toNat) : Lib.decDigits (decVal l) = l := by
  obtain ⟨n, hn⟩ : ∃ n, l.length = n + 1 := ⟨l.length - 1, by have := List.length_pos_iff.2 h0; omega⟩
  induction n generalizing l with
  | zero =>
    match l, hn with
    | [c], _ =>
      have := hd c (by simp)
      have e : decVal [c] = c.toNat - 48 := by simp [decVal]
      rw [e, dec_small (by omega)]
      congr 1
      apply UInt8.toNat_inj.1
      rw [dig_toNat (by omega)]; omega
  | succ n ih =>
    obtain ⟨a, c, rfl⟩ : ∃ a c, l = a ++ [c] := ⟨l.dropLast, l.getLast h0, (List.dropLast_concat_getLast h0).symm⟩
    rw [List.length_append, List.length_singleton] at hn
    have ha : a ≠ [] := by intro e; subst e; simp at hn
    have hc := hd c (by simp)
    have h' : ∃ x m, a = x :: m ∧ 49 ≤ x.toNat := by
      rcases h with h | ⟨x, m, e, hx⟩
      · rw [List.length_append, List.length_singleton] at h; omega
      · cases a with
        | nil => exact absurd rfl ha
        | cons y a => simp at e; exact ⟨y, a, rfl, by rw [e.1]; exact hx⟩
    have e := ih a (fun x hx => hd x (by simp [hx])) ha (.inr h') (by omega)
    have hv : 0 < decVal a := by
      rcases Nat.eq_zero_or_pos (decVal a) with z | z
      · rw [z, dec_small (by decide)] at e
        obtain ⟨x, m, e', hx⟩ := h'
        rw [e'] at e
        simp at e
        rw [← e.1] at hx
        exact absurd hx (by decide)
      · exact z
    rw [decVal_snoc, dec_big (by omega), show (decVal a * 10 + (c.toNat - 48)) / 10 = decVal a by omega, e]
    congr 2
    apply UInt8.toNat_inj.1
    rw [dig_toNat (by omega)]; omega
end Go.Proofs.YtcfhmbhlibhlnaaDoor.MM
