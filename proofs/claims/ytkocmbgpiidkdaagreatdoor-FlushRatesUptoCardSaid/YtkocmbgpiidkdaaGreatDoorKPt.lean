import Derived.Test.YtkocmbgpiidkdaaGreatDoorFns
import Derived.Lib.ItoaNum
import Derived.Lib.Repeat
set_option linter.unusedVariables false
set_option linter.unusedSimpArgs false
/- Texts as lists of bytes, numerals, decimals: plain lemmas. -/
namespace Go.Proofs.YtkocmbgpiidkdaaGreatDoor
open Go Go.Den Go.RowKit
/-- A text of a list of bytes. -/
def bs (l : List UInt8) : ByteArray := ⟨l.toArray⟩
theorem bs_size (l : List UInt8) : (bs l).size = l.length := by simp [bs, ByteArray.size]
theorem bs_app (a b : List UInt8) : bs a ++ bs b = bs (a ++ b) := by
  apply ByteArray.ext; simp [bs]
theorem bs_inj {a b : List UInt8} (h : bs a = bs b) : a = b := by
  have := congrArg (fun x : ByteArray => x.data.toList) h
  simpa [bs] using this
theorem bs_of (s : ByteArray) : bs s.data.toList = s := by
  apply ByteArray.ext; simp [bs]
theorem bs_list (l : List UInt8) : (bs l).toList = l := by
  rw [ByteArray.toList_eq]; simp [bs]
/-- The digit of a number below ten. -/
def dig (u : Nat) : UInt8 := UInt8.ofNat (48 + u)
theorem dec_small {u : Nat} (h : u < 10) : Lib.decDigits u = [dig u] := by rw [Lib.decDigits, dif_pos h]; rfl
theorem dec_big {u : Nat} (h : ¬ u < 10) : Lib.decDigits u = Lib.decDigits (u / 10) ++ [dig (u % 10)] := by rw [Lib.decDigits, dif_neg h]; rfl
theorem dec_len {u k : Nat} (h : u < 10 ^ (k + 1)) : (Lib.decDigits u).length ≤ k + 1 := by
  induction k generalizing u with
  | zero => rw [dec_small (by simpa using h)]; simp
  | succ k ih =>
    by_cases c : u < 10
    · rw [dec_small c]; simp
    · rw [dec_big c, List.length_append]
      have := ih (u := u / 10) (by rw [Nat.pow_succ] at h; omega)
      simp; omega
theorem dec_pos (u : Nat) : 1 ≤ (Lib.decDigits u).length := by rw [Lib.decDigits_length]; exact Lib.nDigits_pos u
/-- A numeral with 0 ahead, k digits in all. -/
def pad (k b : Nat) : List UInt8 := List.replicate (k - (Lib.decDigits b).length) 48 ++ Lib.decDigits b
theorem pad_one {b : Nat} (h : b < 10) : pad 1 b = [dig b] := by unfold pad; rw [dec_small h]; rfl
theorem pad_succ (k b : Nat) (hk : 1 ≤ k) (h : b < 10 ^ (k + 1)) : pad (k + 1) b = pad k (b / 10) ++ [dig (b % 10)] := by
  unfold pad
  by_cases c : b < 10
  · rw [dec_small c, show b / 10 = 0 by omega, show b % 10 = b by omega, dec_small (by decide)]
    simp only [List.length_singleton]
    rw [show k + 1 - 1 = (k - 1) + 1 by omega, List.replicate_succ', List.append_assoc, List.append_assoc]
    rfl
  · have hl := dec_pos (b / 10)
    rw [dec_big c, List.length_append, List.append_assoc]
    simp only [List.length_singleton]
    rw [show k + 1 - ((Lib.decDigits (b / 10)).length + 1) = k - (Lib.decDigits (b / 10)).length by omega]
theorem dec_split (a k b : Nat) (ha : 0 < a) (hk : 1 ≤ k) (h : b < 10 ^ k) : Lib.decDigits (a * 10 ^ k + b) = Lib.decDigits a ++ pad k b := by
  obtain ⟨k, rfl⟩ : ∃ j, k = j + 1 := ⟨k - 1, by omega⟩
  induction k generalizing b with
  | zero =>
    have h : b < 10 := by simpa using h
    simp only [Nat.zero_add, Nat.pow_one]
    rw [dec_big (by omega), show (a * 10 + b) / 10 = a by omega, show (a * 10 + b) % 10 = b by omega, pad_one h]
  | succ k ih =>
    have hp : 1 ≤ 10 ^ (k + 1) := Nat.one_le_pow _ _ (by decide)
    have hm : a * 10 ^ (k + 1) ≥ 10 ^ (k + 1) := Nat.le_mul_of_pos_left _ ha
    have e : a * 10 ^ (k + 1 + 1) = (a * 10 ^ (k + 1)) * 10 := by rw [Nat.pow_succ, Nat.mul_assoc]
    rw [pad_succ (k + 1) b (by omega) h, ← List.append_assoc, ← ih (b / 10) (by omega) (by rw [Nat.pow_succ] at h; omega), e]
    have hb : 10 ≤ 10 ^ (k + 1) := by rw [Nat.pow_succ]; have : 1 ≤ 10 ^ k := Nat.one_le_pow _ _ (by decide); omega
    rw [dec_big (by omega), show (a * 10 ^ (k + 1) * 10 + b) / 10 = a * 10 ^ (k + 1) + b / 10 by omega, show (a * 10 ^ (k + 1) * 10 + b) % 10 = b % 10 by omega]
theorem repeat_zero (n : Nat) : Lib.repeatL [48] n = List.replicate n 48 := by
  have := Lib.repeatL_replicate 48 1 n
  simpa using this
/-- A numeral tells its number. -/
def decVal (l : List UInt8) : Nat := l.foldl (fun n c => n * 10 + (c.toNat - 48)) 0
theorem decVal_snoc (l : List UInt8) (c : UInt8) : decVal (l ++ [c]) = decVal l * 10 + (c.toNat - 48) := by simp [decVal]
theorem dig_toNat {u : Nat} (h : u < 10) : (dig u).toNat = 48 + u := by
  unfold dig; rw [UInt8.toNat_ofNat']; omega
theorem decVal_dec (u : Nat) : decVal (Lib.decDigits u) = u := by
  induction u using Nat.strongRecOn with
  | ind u ih =>
    by_cases c : u < 10
    · rw [dec_small c]; simp [decVal, dig_toNat c]
    · rw [dec_big c, decVal_snoc, ih _ (by omega), dig_toNat (by omega)]; omega
theorem dec_inj {a b : Nat} (h : Lib.decDigits a = Lib.decDigits b) : a = b := by
  rw [← decVal_dec a, h, decVal_dec]
theorem dec_digit (u : Nat) : ∀ c ∈ Lib.decDigits u, 48 ≤ c.toNat ∧ c.toNat ≤ 57 := by
  induction u using Nat.strongRecOn with
  | ind u ih =>
    intro x hx
    by_cases c : u < 10
    · rw [dec_small c] at hx; simp at hx; subst hx; rw [dig_toNat c]; omega
    · rw [dec_big c] at hx
      rcases List.mem_append.1 hx with hx | hx
      · exact ih _ (by omega) x hx
      · simp at hx; subst hx; rw [dig_toNat (by omega)]; omega
/-- No 0 ahead, but for 0 itself. -/
theorem dec_head (u : Nat) (h : 0 < u) : ∃ c l, Lib.decDigits u = c :: l ∧ 49 ≤ c.toNat := by
  induction u using Nat.strongRecOn with
  | ind u ih =>
    by_cases c : u < 10
    · exact ⟨dig u, [], dec_small c, by rw [dig_toNat c]; omega⟩
    · obtain ⟨x, l, e, hx⟩ := ih (u / 10) (by omega) (by omega)
      exact ⟨x, l ++ [dig (u % 10)], by rw [dec_big c, e]; rfl, hx⟩
theorem dec_lower (u : Nat) (h : 0 < u) : 10 ^ ((Lib.decDigits u).length - 1) ≤ u := by
  induction u using Nat.strongRecOn with
  | ind u ih =>
    by_cases c : u < 10
    · rw [dec_small c]; simp; omega
    · have hp := dec_pos (u / 10)
      have := ih (u / 10) (by omega) (by omega)
      rw [dec_big c, List.length_append, List.length_singleton, show (Lib.decDigits (u / 10)).length + 1 - 1 = ((Lib.decDigits (u / 10)).length - 1) + 1 by omega, Nat.pow_succ]
      omega
/-- Digit by digit. -/
theorem dec_of (l : List UInt8) (hd : ∀ c ∈ l, 48 ≤ c.toNat ∧ c.toNat ≤ 57) (h0 : l ≠ []) (h : l.length = 1 ∨ ∃ c m, l = c :: m ∧ 49 ≤ c.toNat) : Lib.decDigits (decVal l) = l := by
  obtain ⟨n, hn⟩ : ∃ n, l.length = n + 1 := ⟨l.length - 1, by have := List.length_pos_iff.2 h0; omega⟩
  induction n generalizing l with
  | zero =>
    match l, hn with
    | [c], _ =>
      have := hd c (by simp)
      have e : decVal [c] = c.toNat - 48 := by simp [decVal]
      rw [e, dec_small (by omega)]
      congr 1
      apply UInt8.toNat_inj.1
      rw [dig_toNat (by omega)]; omega
  | succ n ih =>
    obtain ⟨a, c, rfl⟩ : ∃ a c, l = a ++ [c] := ⟨l.dropLast, l.getLast h0, (List.dropLast_concat_getLast h0).symm⟩
    rw [List.length_append, List.length_singleton] at hn
    have ha : a ≠ [] := by intro e; subst e; simp at hn
    have hc := hd c (by simp)
    have h' : ∃ x m, a = x :: m ∧ 49 ≤ x.toNat := by
      rcases h with h | ⟨x, m, e, hx⟩
      · rw [List.length_append, List.length_singleton] at h; omega
      · cases a with
        | nil => exact absurd rfl ha
        | cons y a => simp at e; exact ⟨y, a, rfl, by rw [e.1]; exact hx⟩
    have e := ih a (fun x hx => hd x (by simp [hx])) ha (.inr h') (by omega)
    have hv : 0 < decVal a := by
      rcases Nat.eq_zero_or_pos (decVal a) with z | z
      · rw [z, dec_small (by decide)] at e
        obtain ⟨x, m, e', hx⟩ := h'
        rw [e'] at e
        simp at e
        rw [← e.1] at hx
        exact absurd hx (by decide)
      · exact z
    rw [decVal_snoc, dec_big (by omega), show (decVal a * 10 + (c.toNat - 48)) / 10 = decVal a by omega, e]
    congr 2
    apply UInt8.toNat_inj.1
    rw [dig_toNat (by omega)]; omega
theorem bs_extract (l : List UInt8) (i j : Nat) : (bs l).extract i j = bs ((l.drop i).take (j - i)) := by
  exact ByteArray.extract_mk l i j
/-- A minus ahead is cut off. -/
def cutm : List UInt8 → List UInt8 × Bool
  | c :: t => if c = 45 then (t, true) else (c :: t, false)
  | [] => ([], false)
theorem cutm_len (l : List UInt8) : (cutm l).1.length ≤ l.length := by
  cases l with
  | nil => simp [cutm]
  | cons c t =>
    unfold cutm
    by_cases h : c = 45
    · simp [h]
    · simp [h]
/-- Its first sign is no 0. -/
def headOk : List UInt8 → Bool
  | c :: _ => decide (c.toNat ≠ 48)
  | [] => false
/-- Decimal digits, one at least, no 0 ahead of others. -/
def okNum (l : List UInt8) : Bool := l.all (fun c => decide (48 ≤ c.toNat) && decide (c.toNat ≤ 57)) && (decide (l = [48]) || headOk l)
theorem okNum_digits {l : List UInt8} (h : okNum l = true) : ∀ c ∈ l, 48 ≤ c.toNat ∧ c.toNat ≤ 57 := by
  unfold okNum at h
  simp only [Bool.and_eq_true, List.all_eq_true, decide_eq_true_eq] at h
  exact h.1
theorem okNum_head {l : List UInt8} (h : okNum l = true) : l = [48] ∨ ∃ c t, l = c :: t ∧ 49 ≤ c.toNat := by
  have hd := okNum_digits h
  unfold okNum at h
  simp only [Bool.and_eq_true, Bool.or_eq_true, decide_eq_true_eq] at h
  rcases h.2 with g | g
  · exact .inl g
  · cases l with
    | nil => simp [headOk] at g
    | cons c t =>
      have := hd c (by simp)
      simp only [headOk, decide_eq_true_eq] at g
      exact .inr ⟨c, t, rfl, by omega⟩
theorem okNum_dec {l : List UInt8} (h : okNum l = true) : Lib.decDigits (decVal l) = l := by
  rcases okNum_head h with g | ⟨c, t, g, hc⟩
  · subst g; exact dec_of _ (okNum_digits h) (by simp) (.inl rfl)
  · exact dec_of _ (okNum_digits h) (by rw [g]; simp) (.inr ⟨c, t, g, hc⟩)
theorem dec_okNum (u : Nat) : okNum (Lib.decDigits u) = true := by
  unfold okNum
  simp only [Bool.and_eq_true, List.all_eq_true, decide_eq_true_eq, Bool.or_eq_true]
  refine ⟨fun c hc => dec_digit u c hc, ?_⟩
  by_cases z : u = 0
  · subst z; exact .inl (by rw [dec_small (by decide)]; rfl)
  · obtain ⟨c, t, e, hc⟩ := dec_head u (by omega)
    refine .inr ?_
    rw [e]
    simp only [headOk, decide_eq_true_eq]; omega
theorem decVal_app_le (a b : List UInt8) : decVal a ≤ decVal (a ++ b) := by
  have : ∀ n, ∀ b : List UInt8, b.length = n → decVal a ≤ decVal (a ++ b) := by
    intro n
    induction n with
    | zero => intro b hb; obtain rfl := List.length_eq_zero_iff.1 hb; simp
    | succ n ih =>
      intro b hb
      obtain ⟨c, x, rfl⟩ : ∃ c x, b = c ++ [x] := ⟨b.dropLast, b.getLast (by intro e; subst e; simp at hb), (List.dropLast_concat_getLast _).symm⟩
      have := ih c (by simpa using hb)
      rw [← List.append_assoc, decVal_snoc]; omega
  exact this _ b rfl
theorem decVal_take_le (l : List UInt8) (i : Nat) : decVal (l.take i) ≤ decVal l := by
  have := decVal_app_le (l.take i) (l.drop i)
  rwa [List.take_append_drop] at this
theorem decVal_take_succ (l : List UInt8) (i : Nat) (h : i < l.length) : decVal (l.take (i + 1)) = decVal (l.take i) * 10 + (l[i].toNat - 48) := by
  rw [List.take_succ_eq_append_getElem h, decVal_snoc]
/-- A long numeral is great. -/
theorem okNum_great {l : List UInt8} (h : okNum l = true) (n : Nat) (hn : n < l.length) (h1 : 1 ≤ n) : 10 ^ n ≤ decVal l := by
  have e := okNum_dec h
  have p : 0 < decVal l := by
    rcases Nat.eq_zero_or_pos (decVal l) with z | z
    · rw [z, dec_small (by decide)] at e
      rw [← e] at hn; simp at hn; omega
    · exact z
  have := dec_lower (decVal l) p
  rw [e] at this
  exact Nat.le_trans (Nat.pow_le_pow_right (by decide) (by omega)) this
/-- A decimal digit. -/
def isd (c : UInt8) : Bool := decide (48 ≤ c.toNat) && decide (c.toNat ≤ 57)
theorem isd_yes {c : UInt8} (h : isd c = true) : 48 ≤ c.toNat ∧ c.toNat ≤ 57 := by
  unfold isd at h; simpa using h
theorem isd_no {c : UInt8} (h : isd c = false) : ¬ (48 ≤ c.toNat ∧ c.toNat ≤ 57) := by
  intro g
  unfold isd at h
  rw [decide_eq_true g.1, decide_eq_true g.2] at h
  exact absurd h (by decide)
/-- Whole digits, one at least; or these, a point, and digits, one at least. -/
def decT (t : List UInt8) : Option (List UInt8 × List UInt8) :=
  if t.takeWhile isd = [] then none else match t.dropWhile isd with
    | [] => some (t.takeWhile isd, [])
    | c :: r => if c = 46 then (if r.takeWhile isd = [] then none else if r.dropWhile isd = [] then some (t.takeWhile isd, r.takeWhile isd) else none) else none
/-- A sign may stand ahead. -/
def decOf (l : List UInt8) : Option (Bool × List UInt8 × List UInt8) := (decT (cutm l).1).map fun p => ((cutm l).2, p.1, p.2)
theorem take_dig (t : List UInt8) : ∀ c ∈ t.takeWhile isd, 48 ≤ c.toNat ∧ c.toNat ≤ 57 := by
  induction t with
  | nil => intro c h; simp at h
  | cons x t ih =>
    intro c h
    rw [List.takeWhile_cons] at h
    by_cases hx : isd x = true
    · rw [if_pos hx] at h
      rcases List.mem_cons.1 h with rfl | h
      · exact isd_yes hx
      · exact ih c h
    · rw [if_neg hx] at h; simp at h
theorem drop_head {t : List UInt8} {c : UInt8} {r : List UInt8} (h : t.dropWhile isd = c :: r) : isd c = false := by
  induction t with
  | nil => simp at h
  | cons x t ih =>
    rw [List.dropWhile_cons] at h
    by_cases hx : isd x = true
    · rw [if_pos hx] at h; exact ih h
    · rw [if_neg hx] at h
      injection h with h1 h2
      subst h1
      simpa using hx
theorem take_drop (t : List UInt8) : t.takeWhile isd ++ t.dropWhile isd = t := List.takeWhile_append_dropWhile
theorem cutm_cons (c : UInt8) (t : List UInt8) : cutm (c :: t) = if c = 45 then (t, true) else (c :: t, false) := rfl
/-- The signed number of digits. -/
def sgv (b : Bool) (n : Nat) : Int := if b = true then -(n : Int) else (n : Int)
theorem foldv (l : List UInt8) : ∀ n : Nat, l.foldl (fun n c => n * 10 + (c.toNat - 48)) n = n * 10 ^ l.length + decVal l := by
  induction l with
  | nil => intro n; simp [decVal]
  | cons c t ih =>
    intro n
    have e : decVal (c :: t) = (c.toNat - 48) * 10 ^ t.length + decVal t := by
      unfold decVal
      rw [List.foldl_cons, ih, Nat.zero_mul, Nat.zero_add]
      rfl
    rw [List.foldl_cons, ih, e, List.length_cons, Nat.pow_succ, Nat.add_mul, Nat.mul_assoc, Nat.mul_comm 10]
    omega
theorem decVal_app (a b : List UInt8) : decVal (a ++ b) = decVal a * 10 ^ b.length + decVal b := by
  rw [← foldv b (decVal a)]
  unfold decVal
  rw [List.foldl_append]
theorem decVal_zeros (n : Nat) : decVal (List.replicate n 48) = 0 := by
  induction n with
  | zero => rfl
  | succ n ih =>
    rw [List.replicate_succ', decVal_snoc, ih]
    rfl
theorem decVal_lt (l : List UInt8) (hd : ∀ c ∈ l, 48 ≤ c.toNat ∧ c.toNat ≤ 57) : decVal l < 10 ^ l.length := by
  induction l with
  | nil => decide
  | cons c t ih =>
    have h1 := ih fun x hx => hd x (List.mem_cons_of_mem _ hx)
    have h2 := hd c List.mem_cons_self
    have e := decVal_app [c] t
    rw [List.singleton_append] at e
    rw [e, show decVal [c] = c.toNat - 48 by simp [decVal], List.length_cons, Nat.pow_succ]
    have : (c.toNat - 48) * 10 ^ t.length ≤ 9 * 10 ^ t.length := Nat.mul_le_mul_right _ (by omega)
    omega
/-- The millionths of whole digits and of six at most behind the point. -/
def valOf (W F : List UInt8) : Nat := decVal (W ++ F) * 10 ^ (6 - F.length)
theorem valOf_zeros (W F : List UInt8) : decVal ((W ++ F) ++ List.replicate (6 - F.length) 48) = valOf W F := by
  rw [decVal_app, decVal_zeros, List.length_replicate]
  rfl
theorem zeros_dig (n : Nat) : ∀ c ∈ List.replicate n (48 : UInt8), 48 ≤ c.toNat ∧ c.toNat ≤ 57 := by
  intro c hc
  rw [List.eq_of_mem_replicate hc]
  decide
theorem app_dig {a b : List UInt8} (ha : ∀ c ∈ a, 48 ≤ c.toNat ∧ c.toNat ≤ 57) (hb : ∀ c ∈ b, 48 ≤ c.toNat ∧ c.toNat ≤ 57) : ∀ c ∈ a ++ b, 48 ≤ c.toNat ∧ c.toNat ≤ 57 := by
  intro c hc
  rcases List.mem_append.1 hc with h | h
  · exact ha c h
  · exact hb c h
theorem decT_parts {t W F : List UInt8} (h : decT t = some (W, F)) : (∀ c ∈ W, 48 ≤ c.toNat ∧ c.toNat ≤ 57) ∧ (∀ c ∈ F, 48 ≤ c.toNat ∧ c.toNat ≤ 57) ∧ W ≠ [] ∧ t.length = W.length + (if F = [] then 0 else F.length + 1) := by
  have td := congrArg List.length (take_drop t)
  rw [List.length_append] at td
  unfold decT at h
  split at h
  · cases h
  · rename_i w0
    split at h
    · rename_i hR
      injection h with h; injection h with h1 h2
      subst h1 h2
      rw [hR] at td
      exact ⟨take_dig t, by intro c hc; simp at hc, w0, by rw [if_pos rfl, ← td]; rfl⟩
    · rename_i c r hR
      rw [hR, List.length_cons] at td
      split at h
      · split at h
        · cases h
        · rename_i f0
          split at h
          · rename_i r0
            injection h with h; injection h with h1 h2
            subst h1 h2
            have rd := congrArg List.length (take_drop r)
            rw [List.length_append, r0, List.length_nil] at rd
            exact ⟨take_dig t, take_dig r, w0, by rw [if_neg f0]; omega⟩
          · cases h
      · cases h
/-- What Parse answers. -/
def parseV (l : List UInt8) : Int × Int :=
  match decOf l with
  | none => (0, 20)
  | some p => if 6 < p.2.2.length then (0, 21) else if valOf p.2.1 p.2.2 ≤ 1000000000000000 then (sgv p.1 (valOf p.2.1 p.2.2), 0) else (0, 22)
/-- The zeros at the end struck. -/
def stripz (l : List UInt8) : List UInt8 := (l.reverse.dropWhile (fun c => decide (c = 48))).reverse
theorem stripz_nil : stripz [] = [] := rfl
theorem stripz_snoc (a : List UInt8) (c : UInt8) : stripz (a ++ [c]) = if c = 48 then stripz a else a ++ [c] := by
  unfold stripz
  rw [List.reverse_append, List.reverse_singleton, List.singleton_append, List.dropWhile_cons]
  by_cases h : c = 48
  · rw [if_pos h, if_pos (decide_eq_true h)]
  · rw [if_neg h, if_neg (by simpa using h)]; simp
theorem snoc_of {l : List UInt8} (h : l ≠ []) : ∃ a c, l = a ++ [c] := ⟨l.dropLast, l.getLast h, (List.dropLast_concat_getLast h).symm⟩
theorem stripz_len (l : List UInt8) : (stripz l).length ≤ l.length := by
  obtain ⟨n, hn⟩ : ∃ n, l.length = n := ⟨_, rfl⟩
  induction n generalizing l with
  | zero => obtain rfl := List.length_eq_zero_iff.1 hn; simp [stripz]
  | succ n ih =>
    obtain ⟨a, c, rfl⟩ := snoc_of (l := l) (by intro e; subst e; simp at hn)
    rw [stripz_snoc]
    have := ih a (by simpa using hn)
    split
    · rw [List.length_append]; omega
    · omega
theorem stripz_some {l : List UInt8} (h : ∃ c ∈ l, c ≠ 48) : stripz l ≠ [] := by
  obtain ⟨n, hn⟩ : ∃ n, l.length = n := ⟨_, rfl⟩
  induction n generalizing l with
  | zero => obtain rfl := List.length_eq_zero_iff.1 hn; simp at h
  | succ n ih =>
    obtain ⟨a, c, rfl⟩ := snoc_of (l := l) (by intro e; subst e; simp at hn)
    rw [stripz_snoc]
    by_cases hc : c = 48
    · rw [if_pos hc]
      refine ih ?_ (by simpa using hn)
      obtain ⟨x, hx, hx'⟩ := h
      rcases List.mem_append.1 hx with g | g
      · exact ⟨x, g, hx'⟩
      · simp at g; subst g; exact absurd hc hx'
    · rw [if_neg hc]; simp
theorem pad_len {k b : Nat} (hk : 1 ≤ k) (h : b < 10 ^ k) : (pad k b).length = k := by
  have : (Lib.decDigits b).length ≤ k := by
    obtain ⟨j, rfl⟩ : ∃ j, k = j + 1 := ⟨k - 1, by omega⟩
    exact dec_len h
  unfold pad
  rw [List.length_append, List.length_replicate]; omega
theorem pad_some (k b : Nat) (hb : 0 < b) : ∃ c ∈ pad k b, c ≠ 48 := by
  obtain ⟨c, t, e, hc⟩ := dec_head b hb
  refine ⟨c, ?_, ?_⟩
  · unfold pad; rw [e]; simp
  · intro h; subst h; exact absurd hc (by decide)
theorem stripz_zero : stripz (pad 6 0) = [] := by
  unfold pad
  rw [dec_small (by decide)]
  decide
/-- What stands behind the point. -/
def frac (r : Nat) : List UInt8 := if r = 0 then [] else 46 :: stripz (pad 6 r)
theorem frac_is (r : Nat) : (if stripz (pad 6 r) = [] then [] else 46 :: stripz (pad 6 r)) = frac r := by
  unfold frac
  by_cases h : r = 0
  · subst h; rw [if_pos stripz_zero, if_pos rfl]
  · rw [if_neg h, if_neg (stripz_some (pad_some 6 r (by omega)))]
/-- A number of millionths as a text. -/
def showW (v : Int) : List UInt8 := (if v < 0 then [45] else []) ++ (Lib.decDigits (v.natAbs / 1000000) ++ frac (v.natAbs % 1000000))
/-- Seven digits at least: the whole part and six. -/
theorem pad_seven (m : Nat) : pad 7 m = Lib.decDigits (m / 1000000) ++ pad 6 (m % 1000000) := by
  by_cases h : m < 1000000
  · rw [show m / 1000000 = 0 by omega, show m % 1000000 = m by omega, dec_small (by decide)]
    have : (Lib.decDigits m).length ≤ 6 := dec_len (k := 5) (by simpa using h)
    unfold pad
    rw [show 7 - (Lib.decDigits m).length = (6 - (Lib.decDigits m).length) + 1 by omega, List.replicate_succ]
    rfl
  · have e := dec_split (m / 1000000) 6 (m % 1000000) (by omega) (by decide) (by simp; omega)
    rw [show m / 1000000 * 10 ^ 6 + m % 1000000 = m by simp; omega] at e
    rw [← e]
    unfold pad
    have : 10 ^ 6 ≤ m := by simp; omega
    have l7 : 7 ≤ (Lib.decDigits m).length := by
      rw [Lib.decDigits_length]
      rcases Nat.lt_or_ge (Lib.nDigits m) 7 with g | g
      · have := Lib.lt_pow_nDigits m
        have h2 : 10 ^ Lib.nDigits m ≤ 10 ^ 6 := Nat.pow_le_pow_right (by decide) (by omega)
        omega
      · exact g
    rw [show 7 - (Lib.decDigits m).length = 0 by omega]; rfl
theorem isd_of {c : UInt8} (h : 48 ≤ c.toNat ∧ c.toNat ≤ 57) : isd c = true := by
  unfold isd
  rw [decide_eq_true h.1, decide_eq_true h.2]
  rfl
theorem stripz_back (l : List UInt8) : stripz l ++ List.replicate (l.length - (stripz l).length) 48 = l := by
  obtain ⟨n, hn⟩ : ∃ n, l.length = n := ⟨_, rfl⟩
  induction n generalizing l with
  | zero => obtain rfl := List.length_eq_zero_iff.1 hn; rfl
  | succ n ih =>
    obtain ⟨a, c, rfl⟩ := snoc_of (l := l) (by intro e; subst e; simp at hn)
    have ha : a.length = n := by simpa using hn
    have h := ih a ha
    have hl := stripz_len a
    rw [stripz_snoc]
    by_cases hc : c = 48
    · subst hc
      rw [if_pos rfl, List.length_append, List.length_singleton, show a.length + 1 - (stripz a).length = (a.length - (stripz a).length) + 1 by omega, List.replicate_succ', ← List.append_assoc, h]
    · rw [if_neg hc, Nat.sub_self, List.replicate_zero, List.append_nil]
theorem stripz_sub (l : List UInt8) : ∀ c ∈ stripz l, c ∈ l := by
  intro c hc
  rw [← stripz_back l]
  exact List.mem_append_left _ hc
theorem stripz_zeros (a : List UInt8) (n : Nat) : stripz (a ++ List.replicate n 48) = stripz a := by
  induction n with
  | zero => rw [List.replicate_zero, List.append_nil]
  | succ n ih => rw [List.replicate_succ', ← List.append_assoc, stripz_snoc, if_pos rfl, ih]
theorem pad_dig (k r : Nat) : ∀ c ∈ pad k r, 48 ≤ c.toNat ∧ c.toNat ≤ 57 := by
  unfold pad
  exact app_dig (zeros_dig _) (dec_digit r)
theorem decVal_pad (k r : Nat) : decVal (pad k r) = r := by
  unfold pad
  rw [decVal_app, decVal_zeros, decVal_dec, Nat.zero_mul, Nat.zero_add]
/-- The digits behind the point. -/
def tail6 (r : Nat) : List UInt8 := if r = 0 then [] else stripz (pad 6 r)
theorem tail6_len (r : Nat) (h : r < 1000000) : (tail6 r).length ≤ 6 := by
  unfold tail6
  split
  · simp
  · have := stripz_len (pad 6 r)
    rw [pad_len (by decide) (by omega)] at this
    exact this
theorem decT_show (q r : Nat) (h : r < 1000000) : decT (Lib.decDigits q ++ frac r) = some (Lib.decDigits q, tail6 r) := by
  have dd : ∀ c ∈ Lib.decDigits q, isd c = true := fun c hc => isd_of (dec_digit q c hc)
  have ne : Lib.decDigits q ≠ [] := fun h => by have := dec_pos q; rw [h] at this; exact absurd this (by decide)
  unfold decT
  rw [List.takeWhile_append_of_pos dd, List.dropWhile_append_of_pos dd]
  unfold frac tail6
  by_cases r0 : r = 0
  · rw [if_pos r0, if_pos r0]
    simp [ne]
  · rw [if_neg r0, if_neg r0]
    have sd : ∀ c ∈ stripz (pad 6 r), isd c = true := fun c hc => isd_of (pad_dig 6 r c (stripz_sub _ c hc))
    have t0 : (46 :: stripz (pad 6 r)).takeWhile isd = [] := rfl
    have d0 : (46 :: stripz (pad 6 r)).dropWhile isd = 46 :: stripz (pad 6 r) := rfl
    have t1 := List.takeWhile_append_of_pos (l₂ := []) sd
    have d1 := List.dropWhile_append_of_pos (l₂ := []) sd
    rw [List.append_nil, List.takeWhile_nil, List.append_nil] at t1
    rw [List.append_nil, List.dropWhile_nil] at d1
    rw [t0, d0, List.append_nil, if_neg ne]
    simp only []
    rw [t1, d1, if_pos rfl, if_neg (stripz_some (pad_some 6 r (by omega))), if_pos trivial]
theorem valOf_show (q r : Nat) (h : r < 1000000) : valOf (Lib.decDigits q) (tail6 r) = q * 1000000 + r := by
  unfold tail6
  by_cases r0 : r = 0
  · rw [if_pos r0, r0]
    unfold valOf
    rw [List.append_nil, decVal_dec, List.length_nil, Nat.sub_zero, Nat.add_zero, show (10 : Nat) ^ 6 = 1000000 by decide]
  · rw [if_neg r0, ← valOf_zeros]
    have pl : (pad 6 r).length = 6 := pad_len (by decide) (by omega)
    have sb := stripz_back (pad 6 r)
    rw [pl] at sb
    rw [List.append_assoc, sb, decVal_app, decVal_dec, decVal_pad, pl]
theorem cutm_show (v : Int) : cutm (showW v) = (Lib.decDigits (v.natAbs / 1000000) ++ frac (v.natAbs % 1000000), decide (v < 0)) := by
  unfold showW
  by_cases h : v < 0
  · rw [if_pos h, decide_eq_true h, List.singleton_append, cutm_cons, if_pos rfl]
  · rw [if_neg h, decide_eq_false h, List.nil_append]
    have dd := dec_digit (v.natAbs / 1000000)
    have dp := dec_pos (v.natAbs / 1000000)
    cases hD : Lib.decDigits (v.natAbs / 1000000) with
    | nil => rw [hD] at dp; exact absurd dp (by decide)
    | cons c t =>
      rw [hD] at dd
      have g := dd c List.mem_cons_self
      rw [List.cons_append, cutm_cons, if_neg (fun e => by rw [e] at g; exact absurd g (by decide))]
theorem decOf_show (v : Int) : decOf (showW v) = some (decide (v < 0), Lib.decDigits (v.natAbs / 1000000), tail6 (v.natAbs % 1000000)) := by
  unfold decOf
  rw [cutm_show]
  dsimp only
  rw [decT_show _ _ (by omega)]
  rfl
theorem val_show (v : Int) : valOf (Lib.decDigits (v.natAbs / 1000000)) (tail6 (v.natAbs % 1000000)) = v.natAbs := by
  rw [valOf_show _ _ (by omega)]
  omega
theorem sgv_abs (v : Int) : sgv (decide (v < 0)) v.natAbs = v := by
  unfold sgv
  by_cases h : v < 0
  · rw [decide_eq_true h, if_pos rfl]; omega
  · rw [decide_eq_false h, if_neg (by decide)]; omega
theorem parseV_show (v : Int) : parseV (showW v) = if v.natAbs ≤ 1000000000000000 then (v, 0) else (0, 22) := by
  have hl := tail6_len (v.natAbs % 1000000) (by omega)
  unfold parseV
  rw [decOf_show]
  dsimp only
  rw [if_neg (by omega), val_show, sgv_abs]
theorem show_len (v : Int) (hv : -170141183460469231731687303715884105728 ≤ v ∧ v < 170141183460469231731687303715884105728) : (showW v).length ≤ 100 := by
  have h1 : (Lib.decDigits (v.natAbs / 1000000)).length ≤ 38 + 1 := dec_len (by
    rw [show (10 : Nat) ^ (38 + 1) = 1000000000000000000000000000000000000000 by decide +kernel]; omega)
  have h2 : (frac (v.natAbs % 1000000)).length ≤ 7 := by
    unfold frac
    split
    · simp
    · have := stripz_len (pad 6 (v.natAbs % 1000000))
      rw [pad_len (by decide) (by omega)] at this
      rw [List.length_cons]; omega
  unfold showW
  rw [List.length_append, List.length_append]
  have h3 : (if v < 0 then [(45 : UInt8)] else []).length ≤ 1 := by split <;> simp
  omega
theorem show_pos (v : Int) : 0 < (showW v).length := by
  have := dec_pos (v.natAbs / 1000000)
  unfold showW
  rw [List.length_append, List.length_append]
  omega
theorem byteAt_bs {l : List UInt8} {i : Nat} (h : i < l.length) : byteAt (bs l) (i : Int) = ((l[i]'h).toNat : Int) := by
  unfold byteAt bs
  rw [Int.toNat_natCast, List.getD_eq_getElem?_getD]
  simp [h]
end Go.Proofs.YtkocmbgpiidkdaaGreatDoor
