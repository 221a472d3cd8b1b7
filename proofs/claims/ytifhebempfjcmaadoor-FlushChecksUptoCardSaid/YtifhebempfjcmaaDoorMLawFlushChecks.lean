/- FlushChecks, pure. -/
import Derived.Test.YtifhebempfjcmaaDoorMValid
import Derived.Test.YtifhebempfjcmaaDoorPxf3
namespace Go.Proofs.YtifhebempfjcmaaDoor.MM
open Go.RowKit Go.Proofs.YtifhebempfjcmaaDoor.P Go.Proofs.YtifhebempfjcmaaDoorW.PrintWords Go.Proofs.YtifhebempfjcmaaDoorW.PrintMore Go.Proofs.YtifhebempfjcmaaDoor.Mine
set_option linter.unusedVariables false
set_option linter.unusedSimpArgs false

theorem w64m (i : Nat) (h : i < 4611686018427387904) : wrap64 ((i : Int) - 1) = (i : Int) - 1 := by unfold wrap64; omega
/-- Does a list rise from a place on, none below the least? -/
def rB (least : Int) (l : List Int) : Nat → Nat → Bool
  | 0, _ => true
  | n + 1, i => !(decide (rd l i < least) || (decide (0 < i) && decide (rd l i ≤ rd l ((i : Int) - 1)))) && rB least l n (i + 1)
theorem risesL (l : List Int) (least : Int) (hl : l.length ≤ 1048576) : ∀ (n i k : Nat), i + n = l.length → flush_rises.l0 (k + n + 1) l least l (l.length : Int) i = some (rB least l n i) := by
  intro n
  induction n with
  | zero =>
    intro i k h
    have e : i = l.length := by omega
    subst e
    rw [show k + 0 + 1 = k + 1 by omega, flush_rises.l0, if_neg (by omega)]
    rfl
  | succ n ih =>
    intro i k h
    have c1 : (i : Int) < (l.length : Int) := by omega
    have c2 : (0 : Int) ≤ i := by omega
    rw [show k + (n + 1) + 1 = (k + n + 1) + 1 by omega, flush_rises.l0, if_pos c1, if_pos c2, if_pos c1, w64 i (by omega), w64m i (by omega), ih (i + 1) k (by omega)]
    simp only [rB]
    by_cases d1 : rd l i < least
    · rw [if_pos d1]; simp [d1]
    · rw [if_neg d1]
      by_cases d2 : 0 < i
      · rw [if_pos (by omega), if_pos (by omega), if_pos (by omega)]
        by_cases d3 : rd l i ≤ rd l ((i : Int) - 1)
        · rw [if_pos d3]; simp [d2, d3]
        · rw [if_neg d3]; simp [d1, d2, d3]
      · rw [if_neg (by omega)]; simp [d1, d2]
theorem rises_is (l : List Int) (least : Int) (hl : l.length ≤ 1048576) (k : Nat) (hk : 1100000 ≤ k) : flush_rises.f k l least = some (rB least l l.length 0) := by
  obtain ⟨j, rfl⟩ : ∃ j, k = j + l.length + 1 := ⟨k - 1 - l.length, by omega⟩
  exact risesL l least hl l.length 0 j (by omega)
def hasFrom (l : List Int) (x : Int) : Nat → Nat → Bool
  | 0, _ => false
  | n + 1, i => decide (x = rd l i) || hasFrom l x n (i + 1)
theorem indexL (l : List Int) (x : Int) (hl : l.length ≤ 1048576) : ∀ (n i k : Nat), i + n = l.length → ∃ r, slices_Index_int64_int64.l0 (k + n + 1) l x (l.length : Int) i = some r ∧ (r ≥ 0 ↔ hasFrom l x n i = true) := by
  intro n
  induction n with
  | zero =>
    intro i k h
    have e : i = l.length := by omega
    subst e
    refine ⟨-1, ?_, by simp [hasFrom]⟩
    rw [show k + 0 + 1 = k + 1 by omega, slices_Index_int64_int64.l0, if_neg (by omega)]
  | succ n ih =>
    intro i k h
    have c1 : (i : Int) < (l.length : Int) := by omega
    have c2 : (0 : Int) ≤ i := by omega
    rw [show k + (n + 1) + 1 = (k + n + 1) + 1 by omega, slices_Index_int64_int64.l0, if_pos c1, if_pos c2, if_pos c1, w64 i (by omega)]
    by_cases d1 : x = rd l i
    · exact ⟨i, by rw [if_pos d1], by simp [hasFrom, d1]⟩
    · obtain ⟨r, h1, h2⟩ := ih (i + 1) k (by omega)
      exact ⟨r, by rw [if_neg d1, h1], by rw [h2]; simp [hasFrom, d1]⟩
theorem contains_is (l : List Int) (x : Int) (hl : l.length ≤ 1048576) (k : Nat) (hk : 1100000 ≤ k) : slices_Contains_int64_int64.f k l x = some (hasFrom l x l.length 0) := by
  obtain ⟨j, rfl⟩ : ∃ j, k = j + l.length + 1 := ⟨k - 1 - l.length, by omega⟩
  obtain ⟨r, h1, h2⟩ := indexL l x hl l.length 0 j (by omega)
  have h1' : slices_Index_int64_int64.f (j + l.length + 1) l x = some r := h1
  unfold slices_Contains_int64_int64.f
  rw [h1']
  simp only [Option.bind_some]
  congr 1
  cases hq : hasFrom l x l.length 0 with
  | true => exact decide_eq_true (h2.mpr hq)
  | false => exact decide_eq_false (fun h => by rw [h2, hq] at h; cases h)
/-- The reference's one pass over the percents. -/
def pB (l : List Int) : Nat → Nat → Bool
  | 0, _ => true
  | n + 1, i => !(decide (rd l i = 0) || decide (rd l i > 100000000) || decide (rd l i < -100000000) || (decide (0 < i) && decide (rd l ((i : Int) - 1) ≥ rd l i))) && pB l n (i + 1)
theorem boundsL (s : ByteArray) (p l : List Int) (hl : l.length ≤ 1048576) : ∀ (n i k : Nat), i + n = l.length → tumblerref10_Check.l1 (k + n + 1) i s p l = some (if rB 0 l n i = true then 0 else 100) := by
  intro n
  induction n with
  | zero =>
    intro i k h
    have e : i = l.length := by omega
    subst e
    rw [show k + 0 + 1 = k + 1 by omega, tumblerref10_Check.l1, if_neg (by omega)]
    rfl
  | succ n ih =>
    intro i k h
    have c1 : (i : Int) < (l.length : Int) := by omega
    have c2 : (0 : Int) ≤ i := by omega
    rw [show k + (n + 1) + 1 = (k + n + 1) + 1 by omega, tumblerref10_Check.l1, if_pos c1, if_pos c2, w64 i (by omega), w64m i (by omega), ih (i + 1) k (by omega)]
    simp only [rB]
    by_cases d1 : rd l i < 0
    · rw [if_pos d1]; simp [d1]
    · rw [if_neg d1]
      by_cases d2 : 0 < i
      · rw [if_pos (by omega), if_pos (by omega), if_pos (by omega)]
        by_cases d3 : rd l i ≤ rd l ((i : Int) - 1)
        · rw [if_pos d3]; simp [d2, d3]
        · rw [if_neg (by omega)]; simp [d1, d2, d3]
      · rw [if_neg (by omega)]; simp [d1, d2]
theorem percentsL (s : ByteArray) (p l : List Int) (hp : p.length ≤ 1048576) (hl : l.length ≤ 1048576) (K : Nat) (hK : l.length + 1 ≤ K) : ∀ (n i : Nat), i + n = p.length → ∀ k, tumblerref10_Check.l0 (K + k + n + 1) i s p l = some (if (pB p n i && rB 0 l l.length 0) = true then 0 else 100) := by
  intro n
  induction n with
  | zero =>
    intro i h k
    have e : i = p.length := by omega
    subst e
    obtain ⟨j, hj⟩ : ∃ j, K + k = j + l.length + 1 := ⟨K + k - 1 - l.length, by omega⟩
    rw [tumblerref10_Check.l0, if_neg (by omega), hj]
    refine Eq.trans (boundsL s p l hl l.length 0 j (by omega)) ?_
    rfl
  | succ n ih =>
    intro i h k
    have c1 : (i : Int) < (p.length : Int) := by omega
    have c2 : (0 : Int) ≤ i := by omega
    rw [show K + k + (n + 1) + 1 = (K + k + n + 1) + 1 by omega, tumblerref10_Check.l0, if_pos c1, if_pos c2, w64 i (by omega), w64m i (by omega), ih (i + 1) (by omega) k]
    simp only [pB]
    by_cases d1 : rd p i = 0
    · rw [if_pos d1]; simp [d1]
    · rw [if_neg d1]
      by_cases d2 : rd p i > 100000000
      · rw [if_pos d2]; simp [d2]
      · rw [if_neg d2]
        by_cases d3 : rd p i < -100000000
        · rw [if_pos d3]; simp [d3]
        · rw [if_neg d3]
          by_cases d4 : 0 < i
          · rw [if_pos (by omega), if_pos (by omega), if_pos (by omega)]
            by_cases d5 : rd p ((i : Int) - 1) ≥ rd p i
            · rw [if_pos d5]; simp [d4, d5]
            · rw [if_neg d5]; simp [d1, d2, d3, d4, d5]
          · rw [if_neg (by omega)]; simp [d1, d2, d3, d4]
/-- The program's three tests of the percents are the reference's one pass: a list that rises has its greatest at its end. -/
theorem pass_is (p : List Int) : ∀ (n i : Nat), i + n = p.length → (pB p n i = true ↔ rB (-100000000) p n i = true ∧ hasFrom p 0 n i = false ∧ (0 < n → rd p ((p.length : Int) - 1) ≤ 100000000)) := by
  intro n
  induction n with
  | zero => intro i h; simp [pB, rB, hasFrom]
  | succ n ih =>
    intro i h
    have hi := ih (i + 1) (by omega)
    have key : rB (-100000000) p n (i + 1) = true → 0 < n → rd p i < rd p ((p.length : Int) - 1) := by
      clear hi ih
      have g : ∀ (m j : Nat), j + m = p.length → 0 < j → rB (-100000000) p m j = true → rd p ((j : Int) - 1) ≤ rd p ((p.length : Int) - 1) := by
        intro m
        induction m with
        | zero => intro j h1 _ _; have : j = p.length := by omega
                  subst this; exact Int.le_refl _
        | succ m ihm =>
          intro j h1 h2 h3
          simp only [rB, Bool.and_eq_true, Bool.not_eq_true', Bool.or_eq_false_iff] at h3
          obtain ⟨⟨_, h4⟩, h5⟩ := h3
          simp [h2] at h4
          have := ihm (j + 1) (by omega) (by omega) h5
          rw [show ((j + 1 : Nat) : Int) - 1 = (j : Int) by omega] at this
          omega
      intro h1 h2
      obtain ⟨m, rfl⟩ : ∃ m, n = m + 1 := ⟨n - 1, by omega⟩
      simp only [rB, Bool.and_eq_true, Bool.not_eq_true', Bool.or_eq_false_iff] at h1
      obtain ⟨⟨_, h4⟩, h5⟩ := h1
      simp at h4
      have := g m (i + 1 + 1) (by omega) (by omega) h5
      rw [show ((i + 1 + 1 : Nat) : Int) - 1 = ((i + 1 : Nat) : Int) by omega] at this
      have e : ((i + 1 : Nat) : Int) = (i : Int) + 1 := by omega
      rw [e] at this
      have e2 : (i : Int) + 1 - 1 = i := by omega
      omega
    have last : n = 0 → rd p ((p.length : Int) - 1) = rd p i := fun h0 => by rw [show (p.length : Int) - 1 = i by omega]
    simp only [pB, rB, hasFrom, Bool.and_eq_true, Bool.not_eq_true', Bool.or_eq_false_iff, decide_eq_false_iff_not, hi]
    generalize rd p ((p.length : Int) - 1) = z at *
    generalize rd p i = x at *
    constructor
    · rintro ⟨⟨⟨⟨h1, h2⟩, h3⟩, h4⟩, h5, h6, h7⟩
      refine ⟨⟨⟨by omega, ?_⟩, h5⟩, ⟨by omega, h6⟩, fun _ => ?_⟩
      · simpa using h4
      · by_cases hn : 0 < n
        · exact h7 hn
        · rw [last (by omega)]; omega
    · rintro ⟨⟨⟨h1, h2⟩, h3⟩, ⟨h4, h5⟩, h6⟩
      refine ⟨⟨⟨⟨by omega, ?_⟩, by omega⟩, by simpa using h2⟩, h3, h5, fun hn => h6 (by omega)⟩
      by_cases hn : 0 < n
      · have := key h3 hn; have := h6 (by omega); omega
      · have := last (by omega); have := h6 (by omega); omega
/-- What both answer. -/
def kB (s : ByteArray) (p l : List Int) : Int :=
  if !(s.toList.isEmpty) && !(vB s) then 100 else if p.length > 16 ∨ l.length > 32 then 100 else if (pB p p.length 0 && rB 0 l l.length 0) = true then 0 else 100
theorem fCheck_is (s : ByteArray) (p l : List Int) (hs : s.size ≤ 1048576) (hp : p.length ≤ 1048576) (hl : l.length ≤ 1048576) (k : Nat) (hk : 1100002 ≤ k) : flush_Check.f k s p l = some (kB s p l) := by
  obtain ⟨j, rfl⟩ : ∃ j, k = j + 2 := ⟨k - 2, by omega⟩
  have hP := pass_is p p.length 0 (by omega)
  have j1 : ∀ b : Bool, flush_Check.j1 (j + 1 - 0) b s p l = some (if b = true ∨ (0 < p.length ∧ rd p ((p.length : Int) - 1) > 100000000) then 100 else 0) := by
    intro b
    simp only [Nat.sub_zero, flush_Check.j1]
    cases b
    · by_cases c : 0 < p.length
      · rw [if_neg (by simp), if_pos (by omega), w64m _ (by omega), if_pos (by omega), if_pos (by omega)]
        by_cases c2 : rd p ((p.length : Int) - 1) > 100000000
        · simp [c, c2]
        · simp [c, c2]
      · rw [if_neg (by simp), if_neg (by omega)]; simp [c]
    · simp
  have j0 : ∀ b : Bool, flush_Check.j0 (j + 2) b s p l = some (if b = true then 100 else if (pB p p.length 0 && rB 0 l l.length 0) = true then 0 else 100) := by
    intro b
    simp only [flush_Check.j0]
    rw [rises_is p _ hp (j + 1) (by omega), rises_is l _ hl (j + 1) (by omega), contains_is p 0 hp (j + 1) (by omega)]
    have j1' := j1
    simp only [Nat.sub_zero] at j1'
    simp only [Option.bind_some, j1']
    cases b
    · cases h1 : rB (-100000000) p p.length 0 <;> cases h2 : rB 0 l l.length 0 <;> cases h3 : hasFrom p 0 p.length 0 <;> cases h4 : pB p p.length 0 <;> simp [h1, h3, h4] at hP <;> simp
      all_goals omega
    · simp
  unfold flush_Check.f kB
  rw [ValidN_is s hs]
  simp only [Option.bind_some, j0]
  by_cases c : s.toList = ([] : List UInt8)
  · rw [if_pos c, List.isEmpty_iff.mpr c]
    by_cases c1 : p.length > 16
    · rw [if_pos (by omega)]; simp [c1]
    · rw [if_neg (by omega)]
      by_cases c2 : l.length > 32
      · rw [decide_eq_true (show (l.length : Int) > 32 by omega)]; simp [c2]
      · rw [decide_eq_false (show ¬ (l.length : Int) > 32 by omega)]; simp [c1, c2]
  · have c' : s.toList.isEmpty = false := Bool.eq_false_iff.mpr (fun z => c (List.isEmpty_iff.mp z))
    rw [if_neg c, c']
    cases vB s
    · simp
    · by_cases c1 : p.length > 16
      · rw [if_pos rfl, if_pos (by omega)]; simp [c1]
      · rw [if_pos rfl, if_neg (by omega)]
        by_cases c2 : l.length > 32
        · rw [decide_eq_true (show (l.length : Int) > 32 by omega)]; simp [c2]
        · rw [decide_eq_false (show ¬ (l.length : Int) > 32 by omega)]; simp [c1, c2]
theorem gCheck_is (s : ByteArray) (p l : List Int) (hs : s.size ≤ 1048576) (hp : p.length ≤ 1048576) (hl : l.length ≤ 1048576) (k : Nat) (hk : 2200010 ≤ k) : tumblerref10_Check.f k s p l = some (kB s p l) := by
  obtain ⟨j, rfl⟩ : ∃ j, k = j + 2 := ⟨k - 2, by omega⟩
  have l0 := percentsL s p l hp hl (l.length + 1) (Nat.le_refl _) p.length 0 (by omega) (j - (l.length + 1) - p.length - 1)
  rw [show l.length + 1 + (j - (l.length + 1) - p.length - 1) + p.length + 1 = j by omega] at l0
  have l0' : tumblerref10_Check.l0 j 0 s p l = _ := l0
  have j0 : tumblerref10_Check.j0 (j + 2) s p l = some (if p.length > 16 ∨ l.length > 32 then 100 else if (pB p p.length 0 && rB 0 l l.length 0) = true then 0 else 100) := by
    simp only [tumblerref10_Check.j0, tumblerref10_Check.j1, l0']
    by_cases c1 : p.length > 16
    · rw [if_pos (by omega)]; simp [c1]
    · rw [if_neg (by omega)]
      by_cases c2 : l.length > 32
      · rw [decide_eq_true (show (l.length : Int) > 32 by omega)]; simp [c2]
      · rw [decide_eq_false (show ¬ (l.length : Int) > 32 by omega)]; simp [c1, c2]
  unfold tumblerref10_Check.f kB
  rw [ValidR_is s hs _ (by omega), j0]
  by_cases c : s.toList = ([] : List UInt8)
  · rw [if_pos c, List.isEmpty_iff.mpr c]; simp
  · have c' : s.toList.isEmpty = false := Bool.eq_false_iff.mpr (fun z => c (List.isEmpty_iff.mp z))
    rw [if_neg c, c']
    cases vB s <;> simp
theorem FlushChecks : tumblerlaw10_FlushChecks.Pure := by
  intro s p l hs hp _ hl _
  have e0 : vB (⟨#[46]⟩ : ByteArray) = false := by decide +kernel
  have e1 : (⟨#[46]⟩ : ByteArray).toList.isEmpty = false := by decide +kernel
  refine ⟨2200010, ?_⟩
  unfold tumblerlaw10_FlushChecks.f
  rw [fCheck_is s p l hs hp hl _ (by omega), gCheck_is s p l hs hp hl _ (by omega), fCheck_is _ [] [] (by decide) (by decide) (by decide) _ (by omega)]
  simp [kB, e0, e1]
end Go.Proofs.YtifhebempfjcmaaDoor.MM
