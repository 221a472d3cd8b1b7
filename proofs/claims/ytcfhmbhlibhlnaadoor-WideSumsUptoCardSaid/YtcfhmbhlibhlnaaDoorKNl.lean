import Derived.Test.YtcfhmbhlibhlnaaDoorKWs
set_option linter.unusedVariables false
set_option linter.unusedSimpArgs false
namespace Go.Proofs.YtcfhmbhlibhlnaaDoor
open Go Go.Den Go.RowKit
/-- Lists of 16-bit limbs, the lowest first, as whole numbers. -/
def rd (l : List Int) (i : Int) : Int := l.getD i.toNat 0
/-- The number of a list of limbs. -/
def nv : List Int → Int
  | [] => 0
  | x :: l => x + 65536 * nv l
/-- All are limbs. -/
def Lm (l : List Int) : Prop := ∀ x ∈ l, 0 ≤ x ∧ x < 65536
def limF : Nat → Int → List Int
  | 0, _ => []
  | k + 1, n => if n ≤ 0 then [] else n % 65536 :: limF k (n / 65536)
/-- The limbs of a number, no 0 at the top. -/
def lim (n : Int) : List Int := limF n.toNat n
/-- 65536 to a power. -/
def B (i : Nat) : Int := 65536 ^ i
theorem B_zero : B 0 = 1 := rfl
theorem B_succ (i : Nat) : B (i + 1) = 65536 * B i := by unfold B; rw [Int.pow_succ, Int.mul_comm]
theorem B_pos (i : Nat) : 0 < B i := Int.pow_pos (by decide)
theorem B_add (i j : Nat) : B (i + j) = B i * B j := Int.pow_add _ _ _
theorem B_two (i : Nat) : B i = 2 ^ (16 * i) := by
  unfold B; rw [Int.pow_mul]; rfl
theorem limF_zero (k : Nat) : limF k 0 = [] := by cases k <;> rfl
theorem limF_more : ∀ (k j : Nat) (n : Int), n ≤ k → limF (k + j) n = limF k n := by
  intro k
  induction k with
  | zero => intro j n h; cases j with
    | zero => rfl
    | succ j => simp only [limF, Nat.zero_add]; rw [if_pos (by omega)]
  | succ k ih =>
    intro j n h
    rw [show k + 1 + j = (k + j) + 1 by omega]
    simp only [limF]
    by_cases c : n ≤ 0
    · rw [if_pos c, if_pos c]
    · rw [if_neg c, if_neg c, ih j _ (by omega)]
theorem limF_lim (k : Nat) (n : Int) (h : n ≤ k) : limF k n = lim n := by
  unfold lim
  obtain ⟨j, rfl⟩ : ∃ j, k = n.toNat + j := ⟨k - n.toNat, by omega⟩
  exact limF_more _ _ _ (by omega)
theorem lim_zero : lim 0 = [] := rfl
theorem lim_pos (n : Int) (h : 0 < n) : lim n = n % 65536 :: lim (n / 65536) := by
  obtain ⟨k, hk⟩ : ∃ k, n.toNat = k + 1 := ⟨n.toNat - 1, by omega⟩
  conv => lhs; unfold lim; rw [hk]
  simp only [limF]
  rw [if_neg (by omega), limF_lim _ _ (by omega)]
theorem lim_neg (n : Int) (h : n ≤ 0) : lim n = [] := by
  unfold lim
  rw [show n.toNat = 0 by omega]; rfl
theorem lim_rec {p : Int → Prop} (h0 : p 0) (h1 : ∀ n, 0 < n → p (n / 65536) → p n) : ∀ n, 0 ≤ n → p n := by
  intro n hn
  obtain ⟨m, rfl⟩ := Int.eq_ofNat_of_zero_le hn
  induction m using Nat.strongRecOn with
  | ind m ih =>
    by_cases c : m = 0
    · subst c; exact h0
    · refine h1 _ (by omega) ?_
      have := ih (m / 65536) (by omega) (by omega)
      rwa [show ((m / 65536 : Nat) : Int) = (m : Int) / 65536 by omega] at this
theorem lim_Lm (n : Int) (hn : 0 ≤ n) : Lm (lim n) := by
  refine lim_rec (p := fun n => Lm (lim n)) (by intro x hx; simp [lim_zero] at hx) (fun n h ih => ?_) n hn
  rw [lim_pos n h]
  intro x hx
  rcases List.mem_cons.1 hx with rfl | hx
  · omega
  · exact ih x hx
theorem nv_lim (n : Int) (hn : 0 ≤ n) : nv (lim n) = n := by
  refine lim_rec (p := fun n => nv (lim n) = n) rfl (fun n h ih => ?_) n hn
  rw [lim_pos n h]
  simp only [nv, ih]
  omega
theorem Lm_cons {x : Int} {l : List Int} (h : Lm (x :: l)) : (0 ≤ x ∧ x < 65536) ∧ Lm l := ⟨h x (by simp), fun y hy => h y (by simp [hy])⟩
theorem Lm_mk {x : Int} {l : List Int} (hx : 0 ≤ x ∧ x < 65536) (h : Lm l) : Lm (x :: l) := by
  intro y hy
  rcases List.mem_cons.1 hy with rfl | hy
  · exact hx
  · exact h y hy
theorem Lm_nil : Lm [] := by intro x hx; simp at hx
theorem Lm_app {a b : List Int} (ha : Lm a) (hb : Lm b) : Lm (a ++ b) := by
  intro x hx
  rcases List.mem_append.1 hx with h | h
  · exact ha x h
  · exact hb x h
theorem Lm_snoc {a : List Int} {x : Int} (ha : Lm a) (hx : 0 ≤ x ∧ x < 65536) : Lm (a ++ [x]) := Lm_app ha (Lm_mk hx Lm_nil)
theorem Lm_take {a : List Int} (ha : Lm a) (i : Nat) : Lm (a.take i) := fun x hx => ha x (List.mem_of_mem_take hx)
theorem Lm_set {a : List Int} (ha : Lm a) (i : Nat) (x : Int) (hx : 0 ≤ x ∧ x < 65536) : Lm (a.set i x) := by
  intro y hy
  rcases List.mem_or_eq_of_mem_set hy with h | h
  · exact ha y h
  · subst h; exact hx
theorem Lm_zeros (n : Nat) : Lm (List.replicate n 0) := by
  intro x hx
  rw [List.mem_replicate] at hx
  omega
theorem Lm_left {a b : List Int} (h : Lm (a ++ b)) : Lm a := fun x hx => h x (List.mem_append_left _ hx)
theorem Lm_right {a b : List Int} (h : Lm (a ++ b)) : Lm b := fun x hx => h x (List.mem_append_right _ hx)
theorem nv_nonneg {l : List Int} (h : Lm l) : 0 ≤ nv l := by
  induction l with
  | nil => simp [nv]
  | cons x l ih =>
    obtain ⟨h1, h2⟩ := Lm_cons h
    have := ih h2
    simp only [nv]; omega
theorem nv_lt {l : List Int} (h : Lm l) : nv l < B l.length := by
  induction l with
  | nil => simp [nv, B]
  | cons x l ih =>
    obtain ⟨h1, h2⟩ := Lm_cons h
    have := ih h2
    rw [List.length_cons, B_succ]
    simp only [nv]; omega
theorem nv_app (a b : List Int) : nv (a ++ b) = nv a + B a.length * nv b := by
  induction a with
  | nil => simp [nv, B]
  | cons x l ih =>
    rw [List.cons_append, List.length_cons, B_succ]
    simp only [nv, ih]
    rw [Int.mul_add, Int.mul_assoc]
    omega
theorem nv_snoc (a : List Int) (x : Int) : nv (a ++ [x]) = nv a + B a.length * x := by
  rw [nv_app]; simp [nv]
theorem nv_zeros (n : Nat) : nv (List.replicate n 0) = 0 := by
  induction n with
  | zero => rfl
  | succ n ih => rw [List.replicate_succ]; simp [nv, ih]
/-- No 0 at the top. -/
theorem lim_nv {l : List Int} (h : Lm l) (ht : ∀ x ∈ l.getLast?, x ≠ 0) : lim (nv l) = l := by
  induction l with
  | nil => rfl
  | cons x l ih =>
    obtain ⟨h1, h2⟩ := Lm_cons h
    have n0 := nv_nonneg h2
    cases l with
    | nil =>
      have : x ≠ 0 := ht x (by simp)
      simp only [nv]
      rw [lim_pos _ (by omega), show (x + 65536 * 0) / 65536 = 0 by omega, lim_zero]
      congr 1; omega
    | cons y l =>
      have e := ih h2 (by intro z hz; exact ht z (by rw [List.getLast?_cons_cons]; exact hz))
      have np : 0 < nv (y :: l) := by
        rcases Int.lt_or_eq_of_le n0 with h' | h'
        · exact h'
        · rw [← h', lim_zero] at e; simp at e
      rw [show nv (x :: y :: l) = x + 65536 * nv (y :: l) from rfl]
      generalize nv (y :: l) = m at *
      rw [lim_pos _ (by omega), show (x + 65536 * m) / 65536 = m by omega, e]
      congr 1; omega
theorem lim_len (n : Int) (hn : 0 ≤ n) : ∀ k, n < B k → (lim n).length ≤ k := by
  refine lim_rec (p := fun n => ∀ k, n < B k → (lim n).length ≤ k) (fun k _ => by simp [lim_zero]) (fun n h ih k hk => ?_) n hn
  cases k with
  | zero => rw [B_zero] at hk; omega
  | succ k =>
    rw [lim_pos n h, List.length_cons]
    have := ih k (by rw [B_succ] at hk; omega)
    omega
theorem B_le_lim (n : Int) (hn : 0 < n) : ∃ k, (lim n).length = k + 1 ∧ B k ≤ n ∧ n < B (k + 1) := by
  have h := lim_rec (p := fun n => 0 < n → ∃ k, (lim n).length = k + 1 ∧ B k ≤ n ∧ n < B (k + 1)) (fun h => by omega) (fun n h ih _ => ?_) n (by omega)
  · exact h hn
  · rw [lim_pos n h, List.length_cons]
    by_cases c : 0 < n / 65536
    · obtain ⟨k, e, h1, h2⟩ := ih c
      refine ⟨k + 1, by omega, ?_, ?_⟩
      · rw [B_succ]; omega
      · rw [B_succ]; omega
    · refine ⟨0, ?_, ?_, ?_⟩
      · rw [lim_neg _ (by omega)]; rfl
      · rw [B_zero]; omega
      · rw [B_succ, B_zero]; omega
/-- A limb of a list as a digit of its number. -/
theorem rd_cons (x : Int) (l : List Int) (i : Nat) : rd (x :: l) ((i + 1 : Nat) : Int) = rd l (i : Int) := by
  unfold rd; rw [Int.toNat_natCast, Int.toNat_natCast]; rfl
theorem rd_nv {l : List Int} (h : Lm l) : ∀ i : Nat, rd l (i : Int) = nv l / B i % 65536 := by
  induction l with
  | nil => intro i; simp [rd, nv]
  | cons x l ih =>
    obtain ⟨h1, h2⟩ := Lm_cons h
    intro i
    cases i with
    | zero => rw [B_zero]; simp only [rd, nv]; simp; omega
    | succ i =>
      rw [rd_cons, ih h2, B_succ, ← Int.ediv_ediv_of_nonneg (by decide)]
      simp only [nv]
      rw [show (x + 65536 * nv l) / 65536 = nv l by omega]
theorem rd_range {l : List Int} (h : Lm l) (i : Int) : 0 ≤ rd l i ∧ rd l i < 65536 := by
  unfold rd
  rw [List.getD_eq_getElem?_getD]
  rcases Nat.lt_or_ge i.toNat l.length with c | c
  · rw [List.getElem?_eq_getElem c]; exact h _ (List.getElem_mem c)
  · rw [List.getElem?_eq_none c]; simp
theorem rd_out {l : List Int} (i : Int) (h : (l.length : Int) ≤ i) : rd l i = 0 := by
  unfold rd; rw [List.getD_eq_getElem?_getD, List.getElem?_eq_none (by omega)]; rfl
theorem nv_take {l : List Int} (h : Lm l) : ∀ i : Nat, nv (l.take i) = nv l % B i := by
  induction l with
  | nil => intro i; simp [nv]
  | cons x l ih =>
    obtain ⟨h1, h2⟩ := Lm_cons h
    intro i
    cases i with
    | zero => simp [nv, B]
    | succ i =>
      rw [List.take_succ_cons, B_succ]
      simp only [nv]
      rw [ih h2, Int.emod_def, Int.emod_def, ← Int.ediv_ediv_of_nonneg (by decide), show (x + 65536 * nv l) / 65536 = nv l by omega, Int.mul_assoc]
      omega
theorem nv_mod_full {l : List Int} (h : Lm l) (i : Nat) (hi : l.length ≤ i) : nv l % B i = nv l := by
  rw [← nv_take h, List.take_of_length_le hi]
theorem nv_set {l : List Int} (i : Nat) (x : Int) (hi : i < l.length) : nv (l.set i x) = nv l + B i * (x - rd l (i : Int)) := by
  induction l generalizing i with
  | nil => simp at hi
  | cons y l ih =>
    cases i with
    | zero => simp only [List.set_cons_zero, nv, rd, B]; simp; omega
    | succ i =>
      rw [List.set_cons_succ, rd_cons, B_succ]
      simp only [nv]
      rw [ih i (by simpa using hi), Int.mul_add, Int.mul_assoc]
      omega
/-- One digit more. -/
theorem mod_succ (n : Int) (i : Nat) (hn : 0 ≤ n) : n % B (i + 1) = n % B i + B i * (n / B i % 65536) := by
  rw [B_succ, Int.mul_comm]
  have := B_pos i
  rw [Int.emod_def, ← Int.ediv_ediv_of_nonneg (by omega), Int.emod_def n (B i), Int.emod_def (n / B i), Int.mul_sub, Int.mul_assoc]
  omega
theorem lim_eq_nil {n : Int} (hn : 0 ≤ n) : lim n = [] ↔ n = 0 := by
  constructor
  · intro h
    have := nv_lim n hn
    rw [h] at this
    exact this.symm
  · intro h; subst h; rfl
theorem lim_length_pos {n : Int} (hn : 0 ≤ n) : 0 < (lim n).length ↔ 0 < n := by
  rw [List.length_pos_iff]
  constructor
  · intro h; rcases Int.lt_or_eq_of_le hn with h' | h'
    · exact h'
    · exact absurd (h' ▸ lim_zero) h
  · intro h h'
    rw [lim_eq_nil hn] at h'
    omega
/-- No list is longer than this. -/
def Sh (l : List Int) : Prop := l.length ≤ 1000000000
theorem and_u32 (x : Int) (h0 : 0 ≤ x) (h1 : x < 4294967296) : Go.bits .and .u32 x 65535 = x % 65536 :=
  bits_mask .u32 32 (by decide) (fun n h0 h1 => by simp [IntKind.wrap, IntKind.bits, IntKind.signed]; omega) 16 (by decide) x h0 (by simpa using h1)
theorem and_u64 (x : Int) (h0 : 0 ≤ x) (h1 : x < 18446744073709551616) : Go.bits .and .u64 x 65535 = x % 65536 :=
  bits_mask .u64 64 (by decide) wraps_u64 16 (by decide) x h0 (by simpa using h1)
theorem Sh_lim (n : Int) (hn : 0 ≤ n) (k : Nat) (h : n < B k) (hk : k ≤ 1000000000) : Sh (lim n) := by
  have := lim_len n hn k h
  unfold Sh; omega
theorem digit_range (n : Int) (i : Nat) : 0 ≤ n / B i % 65536 ∧ n / B i % 65536 < 65536 := ⟨Int.emod_nonneg _ (by decide), Int.emod_lt_of_pos _ (by decide)⟩
theorem B_le {i j : Nat} (h : i ≤ j) : B i ≤ B j := by
  obtain ⟨d, rfl⟩ : ∃ d, j = i + d := ⟨j - i, by omega⟩
  rw [B_add]
  have := Int.mul_le_mul_of_nonneg_left (show 1 ≤ B d from B_pos _) (Int.le_of_lt (B_pos i))
  omega
theorem rd_last (a : List Int) (x : Int) : rd (a ++ [x]) (a.length : Int) = x := by
  unfold rd; rw [Int.toNat_natCast]; simp
theorem div_B_succ (n : Int) (i : Nat) : n / B i = 65536 * (n / B (i + 1)) + n / B i % 65536 := by
  rw [B_succ, Int.mul_comm 65536 (B i), ← Int.ediv_ediv_of_nonneg (Int.le_of_lt (B_pos i))]; omega
theorem div_lt_of {n m : Int} {i : Nat} (h : n / B i < m / B i) : n < m := by
  rcases Int.lt_or_le n m with c | c
  · exact c
  · have := Int.ediv_le_ediv (B_pos i) c; omega
theorem lim_len_lt {n m : Int} (hn : 0 ≤ n) (hm : 0 ≤ m) (h : (lim n).length < (lim m).length) : n < m := by
  have h1 := nv_lt (lim_Lm n hn)
  rw [nv_lim n hn] at h1
  have hp : 0 < m := (lim_length_pos hm).1 (by omega)
  obtain ⟨k, e, h2, h3⟩ := B_le_lim m hp
  have := B_le (show (lim n).length ≤ k by omega)
  omega
theorem lim_short {l : List Int} (hl : Lm l) : (lim (nv l)).length ≤ l.length := lim_len _ (nv_nonneg hl) _ (nv_lt hl)
/-- A number that isn't too great. -/
def Bd (x : Int) : Prop := mag x < B 1000
theorem B16 : B 16 = 115792089237316195423570985008687907853269984665640564039457584007913129639936 := by decide +kernel
theorem B8 : B 8 = 340282366920938463463374607431768211456 := by decide +kernel
theorem B4 : B 4 = 18446744073709551616 := by decide +kernel
theorem Bd_of {x : Int} (h : mag x < 115792089237316195423570985008687907853269984665640564039457584007913129639936) : Bd x := by
  unfold Bd
  rw [← B16] at h
  exact Int.lt_of_lt_of_le h (B_le (by decide))
theorem Bd_len {x : Int} (h : Bd x) : (lim (mag x)).length ≤ 1000 := lim_len _ (mag_nonneg x) _ h
theorem mag_lim (x : Int) : nv (lim (mag x)) = mag x := nv_lim _ (mag_nonneg x)
theorem mag_Lm (x : Int) : Lm (lim (mag x)) := lim_Lm _ (mag_nonneg x)
theorem wraps_u32 (n : Int) (h₀ : 0 ≤ n) (h₁ : n < 2 ^ 32) : IntKind.u32.wrap n = n := by
  rw [show IntKind.u32.wrap n = n % 4294967296 by simp [IntKind.wrap, IntKind.bits, IntKind.signed]]; omega
theorem and_one32 (x : Int) (h0 : 0 ≤ x) (h1 : x < 4294967296) : Go.bits .and .u32 x 1 = x % 2 :=
  bits_mask .u32 32 (by decide) wraps_u32 1 (by decide) x h0 (by simpa using h1)
theorem mag_add (x y : Int) : mag (x + y) ≤ mag x + mag y := by
  unfold mag
  repeat' split
  all_goals omega
theorem mag_min (x : Int) : mag (-x) = mag x := by
  unfold mag
  repeat' split
  all_goals omega
theorem Bd_sum {x y : Int} (hx : mag x ≤ 170141183460469231731687303715884105728) (hy : mag y ≤ 170141183460469231731687303715884105728) : Bd (x + y) :=
  Bd_of (by have := mag_add x y; omega)
theorem Bd_neg {x : Int} (h : Bd x) : Bd (-x) := by unfold Bd at *; rwa [mag_min]
attribute [irreducible] B Bd
end Go.Proofs.YtcfhmbhlibhlnaaDoor
