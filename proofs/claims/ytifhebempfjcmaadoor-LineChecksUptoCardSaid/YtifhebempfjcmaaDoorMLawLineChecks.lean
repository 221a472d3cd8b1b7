/- LineChecks, pure. -/
import Derived.Test.YtifhebempfjcmaaDoorMValid
import Derived.Test.YtifhebempfjcmaaDoorPxf4
namespace Go.Proofs.YtifhebempfjcmaaDoor.MM
open Go.RowKit Go.Proofs.YtifhebempfjcmaaDoor.P Go.Proofs.YtifhebempfjcmaaDoorW.PrintWords Go.Proofs.YtifhebempfjcmaaDoorW.PrintMore Go.Proofs.YtifhebempfjcmaaDoor.Mine
set_option linter.unusedVariables false
set_option linter.unusedSimpArgs false

/-- A member's letters, from a place on. -/
def mFrom (s : ByteArray) : Nat → Nat → Bool
  | 0, _ => true
  | n + 1, i => !(decide (bt s i < 32) || decide (bt s i > 126) || decide (bt s i = 124)) && mFrom s n (i + 1)
def mB (s : ByteArray) : Bool := decide (1 ≤ s.size) && decide (s.size ≤ 100) && mFrom s s.size 0
theorem memberL (s : ByteArray) (hs : s.size ≤ 1048576) : ∀ (n i k : Nat), i + n = s.size → line_member.l0 (k + n + 1) s i = some (mFrom s n i && (decide (1 ≤ s.size) && decide (s.size ≤ 100))) := by
  intro n
  induction n with
  | zero =>
    intro i k h
    have e : i = s.size := by omega
    subst e
    rw [show k + 0 + 1 = k + 1 by omega, line_member.l0, if_neg (by omega)]
    by_cases c : 1 ≤ s.size
    · rw [if_pos (by omega)]
      by_cases c2 : s.size ≤ 100
      · rw [decide_eq_true (show (s.size : Int) ≤ 100 by omega)]; simp [mFrom, c, c2]
      · rw [decide_eq_false (show ¬ (s.size : Int) ≤ 100 by omega)]; simp [mFrom, c, c2]
    · rw [if_neg (by omega)]; simp [mFrom, c]
  | succ n ih =>
    intro i k h
    have c1 : (i : Int) < (s.size : Int) := by omega
    have c2 : (0 : Int) ≤ i := by omega
    rw [show k + (n + 1) + 1 = (k + n + 1) + 1 by omega, line_member.l0, if_pos c1, if_pos c2, w64 i (by omega), ih (i + 1) k (by omega)]
    simp only [mFrom]
    by_cases d1 : bt s i < 32
    · rw [if_pos d1]; simp [d1]
    · rw [if_neg d1]
      by_cases d2 : bt s i > 126
      · rw [if_pos d2]; simp [d2]
      · rw [if_neg d2]
        by_cases d3 : bt s i = 124
        · rw [if_pos d3]; simp [d3]
        · rw [if_neg d3]; simp [d1, d2, d3]
theorem member_is (s : ByteArray) (hs : s.size ≤ 1048576) (k : Nat) (hk : 1100000 ≤ k) : line_member.f k s = some (mB s) := by
  obtain ⟨j, rfl⟩ : ∃ j, k = j + s.size + 1 := ⟨k - 1 - s.size, by omega⟩
  unfold line_member.f mB
  have h := memberL s hs s.size 0 j (by omega)
  refine Eq.trans h ?_
  rw [Bool.and_comm]
theorem MemberL (s : ByteArray) (hs : s.size ≤ 1048576) : ∀ (n i k : Nat), i + n = s.size → tumblerref04_Member.l0 (k + n + 1) s i = some (mFrom s n i) := by
  intro n
  induction n with
  | zero =>
    intro i k h
    have e : i = s.size := by omega
    subst e
    rw [show k + 0 + 1 = k + 1 by omega, tumblerref04_Member.l0, if_neg (by omega)]
    rfl
  | succ n ih =>
    intro i k h
    have c1 : (i : Int) < (s.size : Int) := by omega
    have c2 : (0 : Int) ≤ i := by omega
    rw [show k + (n + 1) + 1 = (k + n + 1) + 1 by omega, tumblerref04_Member.l0, if_pos c1, if_pos c2, w64 i (by omega), ih (i + 1) k (by omega)]
    simp only [mFrom]
    by_cases d1 : bt s i < 32
    · rw [if_pos d1]; simp [d1]
    · rw [if_neg d1]
      by_cases d2 : bt s i > 126
      · rw [if_pos d2]; simp [d2]
      · rw [if_neg d2]
        by_cases d3 : bt s i = 124
        · rw [if_pos d3]; simp [d3]
        · rw [if_neg d3]; simp [d1, d2, d3]
theorem Member_is (s : ByteArray) (hs : s.size ≤ 1048576) (k : Nat) (hk : 1100000 ≤ k) : tumblerref04_Member.f k s = some (mB s) := by
  obtain ⟨j, rfl⟩ : ∃ j, k = j + s.size + 2 := ⟨k - 2 - s.size, by omega⟩
  unfold tumblerref04_Member.f mB
  rw [show j + s.size + 2 = (j + s.size + 1) + 1 by omega]
  by_cases c : 1 ≤ s.size
  · rw [if_neg (by omega), tumblerref04_Member.j0]
    by_cases c2 : s.size ≤ 100
    · rw [if_neg (by simp; omega)]
      refine Eq.trans (MemberL s hs s.size 0 j (by omega)) ?_
      simp [c, c2]
    · rw [if_pos (by simp; omega)]; simp [c2]
  · rw [if_pos (by omega), tumblerref04_Member.j0, if_pos rfl]; simp [c]
def eB (s : ByteArray) : Bool := (s.toList == ([] : List UInt8))
/-- May a value stand? -/
def fB (kd v : Int) (d : Bool) (m : ByteArray) : Bool :=
  if v > 1000000000000000 ∨ v < -1000000000000000 ∨ (d = true ∧ kd ≠ 2) then false
  else if kd = 4 then decide (v = 0) && mB m
  else if kd = 3 ∧ (v < 0 ∨ v > 100000000000000) ∨ kd = 2 ∧ d = false ∧ v < 0 then false
  else eB m
theorem lfits_is (n : ByteArray) (kd v : Int) (d : Bool) (m : ByteArray) (r : Int) (t : Bool) (z : Int) (hm : m.size ≤ 1048576) (k : Nat) (hk : 1100001 ≤ k) : line_valueFits.f k n kd v d m r t z = some (fB kd v d m) := by
  obtain ⟨j, rfl⟩ : ∃ j, k = j + 1 := ⟨k - 1, by omega⟩
  have hM := member_is m hm j (by omega)
  unfold line_valueFits.f fB
  simp only [line_valueFits.j0, hM, Option.bind_some]
  by_cases h1 : v > 1000000000000000
  · simp [h1]
  by_cases h2 : v < -1000000000000000
  · simp [h1, h2]
  cases d <;> by_cases h3 : kd = 2 <;> by_cases h4 : kd = 3 <;> by_cases h5 : kd = 4 <;> by_cases h6 : v ≥ 0 <;> by_cases h7 : v ≤ 100000000000000 <;> by_cases h8 : v = 0 <;> first | omega | (simp [h1, h2, h3, h4, h5, h6, h7, h8, eB]; try omega)
theorem rfits_is (n : ByteArray) (kd v : Int) (d : Bool) (m : ByteArray) (r : Int) (t : Bool) (z : Int) (hm : m.size ≤ 1048576) (k : Nat) (hk : 1100001 ≤ k) : tumblerref04_fits.f k n kd v d m r t z = some (fB kd v d m) := by
  obtain ⟨j, rfl⟩ : ∃ j, k = j + 1 := ⟨k - 1, by omega⟩
  have hM := Member_is m hm j (by omega)
  unfold tumblerref04_fits.f fB
  simp only [tumblerref04_fits.j0, hM, Option.bind_some]
  by_cases h1 : v > 1000000000000000
  · simp [h1]
  by_cases h2 : v < -1000000000000000
  · simp [h1, h2]
  cases d <;> by_cases h3 : kd = 2 <;> by_cases h4 : kd = 3 <;> by_cases h5 : kd = 4 <;> by_cases h6 : v < 0 <;> by_cases h7 : v > 100000000000000 <;> by_cases h8 : v = 0 <;> first | omega | (simp [h1, h2, h3, h4, h5, h6, h7, h8, eB]; try omega)
/-- What both Checks answer. -/
def cB (s : ByteArray) (kd v : Int) (d : Bool) (m : ByteArray) (r : Int) (t : Bool) (z : Int) : Int :=
  if vB s = false then 41 else if kd < 1 ∨ kd > 4 then 43 else if fB kd v d m = false then 42
  else if r < 1000 ∨ r > 1000000 ∨ (r ≠ 1000000 ∧ (kd = 2 ∨ kd = 4)) then 44
  else if t = true then (if z < 0 ∨ z > 1099511627775 then 45 else 0) else if z = 0 then 0 else 45
theorem lCheck_is (s : ByteArray) (kd v : Int) (d : Bool) (m : ByteArray) (r : Int) (t : Bool) (z : Int) (hs : s.size ≤ 1048576) (hm : m.size ≤ 1048576) (k : Nat) (hk : 1100002 ≤ k) : line_Check.f k s kd v d m r t z = some (cB s kd v d m r t z) := by
  obtain ⟨j, rfl⟩ : ∃ j, k = j + 1 := ⟨k - 1, by omega⟩
  unfold line_Check.f cB line_rated.f
  rw [ValidN_is s hs]
  simp only [lfits_is s kd v d m r t z hm (j + 1) (by omega), line_Check.j0]
  generalize vB s = b
  generalize fB kd v d m = f
  cases b
  · by_cases h1 : kd = 1 <;> by_cases h2 : kd = 2 <;> by_cases h3 : kd = 3 <;> by_cases h4 : kd = 4 <;> first | omega | simp [h1, h2, h3, h4]
  cases f
  · by_cases h1 : kd = 1 <;> by_cases h2 : kd = 2 <;> by_cases h3 : kd = 3 <;> by_cases h4 : kd = 4 <;> first | omega | (simp [h1, h2, h3, h4]; try omega)
  by_cases h1 : kd = 1 <;> by_cases h2 : kd = 2 <;> by_cases h3 : kd = 3 <;> by_cases h4 : kd = 4 <;> first | omega | skip
  all_goals by_cases h5 : r < 1000 <;> by_cases h6 : r > 1000000 <;> by_cases h7 : r = 1000000 <;> first | omega | skip
  all_goals cases t <;> by_cases h8 : z < 0 <;> by_cases h9 : z > 1099511627775 <;> by_cases h10 : z = 0 <;> first | omega | (simp [h1, h2, h3, h4, h5, h6, h7, h8, h9, h10]; try omega)
theorem rCheck_is (s : ByteArray) (kd v : Int) (d : Bool) (m : ByteArray) (r : Int) (t : Bool) (z : Int) (hs : s.size ≤ 1048576) (hm : m.size ≤ 1048576) (k : Nat) (hk : 1100003 ≤ k) : tumblerref04_Check.f k s kd v d m r t z = some (cB s kd v d m r t z) := by
  obtain ⟨j, rfl⟩ : ∃ j, k = j + 2 := ⟨k - 2, by omega⟩
  unfold tumblerref04_Check.f cB
  rw [ValidR_is s hs _ (by omega)]
  simp only [tumblerref04_Check.j0, rfits_is s kd v d m r t z hm (j + 1) (by omega), tumblerref04_Check.j1, Option.bind_some]
  generalize vB s = b
  generalize fB kd v d m = f
  cases b
  · simp
  by_cases h1 : kd < 1
  · simp [h1]
  by_cases h2 : kd > 4
  · simp [h1, h2]
  cases f
  · simp [h1, h2]
  by_cases h3 : kd = 2 <;> by_cases h4 : kd = 4 <;> first | omega | skip
  all_goals by_cases h5 : r < 1000 <;> by_cases h6 : r > 1000000 <;> by_cases h7 : r = 1000000 <;> first | omega | skip
  all_goals cases t <;> by_cases h8 : z < 0 <;> by_cases h9 : z > 1099511627775 <;> by_cases h10 : z = 0 <;> first | omega | (simp [h1, h2, h3, h4, h5, h6, h7, h8, h9, h10]; try omega)
theorem LineChecks : tumblerlaw04_LineChecks.Pure := by
  intro s kd v d m r t z hs _ _ hm _ _
  have e0 : vB (⟨#[]⟩ : ByteArray) = false := by decide +kernel
  refine ⟨1100003, ?_⟩
  unfold tumblerlaw04_LineChecks.f
  rw [lCheck_is s kd v d m r t z hs hm _ (by omega), rCheck_is s kd v d m r t z hs hm _ (by omega), lCheck_is _ 0 0 false _ 0 false 0 (by decide) (by decide) _ (by omega)]
  simp [cB, e0]
end Go.Proofs.YtifhebempfjcmaaDoor.MM
