import Derived.Test.YtioahngbfdfcaaaGreatDoorKLr
set_option linter.unusedVariables false
set_option linter.unusedSimpArgs false
namespace Go.Proofs.YtioahngbfdfcaaaGreatDoor
open Go Go.Den Go.RowKit
variable {W0 : World}
/-! What a line may say; a line that is printed is read as what it says. -/
/-- A cut text joined again. -/
theorem join_cut (b : UInt8) : ∀ (t acc : List UInt8), joinL [b] (cutA b acc t) = acc ++ t
  | [], acc => by simp [cutA, joinL, Lib.join, List.intercalate]
  | c :: t, acc => by
    unfold cutA
    by_cases hc : c = b
    · rw [if_pos hc]
      obtain ⟨y, r, e⟩ : ∃ y r, cutA b [] t = y :: r := by
        have := (cutA_len b t []).1
        cases h : cutA b [] t with
        | nil => rw [h] at this; simp at this
        | cons y r => exact ⟨y, r, rfl⟩
      have ih := join_cut b t []
      rw [e] at ih ⊢
      rw [join_cons2, ih, hc]; rfl
    · rw [if_neg hc, join_cut b t (acc ++ [c])]; simp
theorem cut_bytes (b : UInt8) : ∀ (t acc : List UInt8) (c : UInt8), c ∈ acc ∨ c ∈ t → c = b ∨ ∃ p ∈ cutA b acc t, c ∈ p
  | [], acc, c, h => .inr ⟨acc, by simp [cutA], h.elim id (fun h => by cases h)⟩
  | x :: t, acc, c, h => by
    unfold cutA
    by_cases hx : x = b
    · rw [if_pos hx]
      rcases h with h | h
      · exact .inr ⟨acc, by simp, h⟩
      · rcases List.mem_cons.mp h with h | h
        · exact .inl (h.trans hx)
        · rcases cut_bytes b t [] c (.inr h) with g | ⟨p, hp, hc⟩
          · exact .inl g
          · exact .inr ⟨p, List.mem_cons_of_mem _ hp, hc⟩
    · rw [if_neg hx]
      refine cut_bytes b t (acc ++ [x]) c ?_
      rcases h with h | h
      · exact .inl (by simp [h])
      · rcases List.mem_cons.mp h with h | h
        · exact .inl (by simp [h])
        · exact .inr h
theorem okName_bytes {l : List UInt8} (h : okName l = true) : ∀ c ∈ l, c = 46 ∨ nb c.toNat = true := by
  intro c hc
  unfold okName at h
  simp only [Bool.and_eq_true, List.all_eq_true] at h
  rcases cut_bytes 46 l [] c (.inr hc) with g | ⟨p, hp, hcp⟩
  · exact .inl g
  · have := h.2 p hp
    unfold okPiece okBytes at this
    simp only [Bool.and_eq_true, List.all_eq_true] at this
    exact .inr (this.2 c hcp)
theorem okName_len {l : List UInt8} (h : okName l = true) : l.length ≤ 200 := by
  unfold okName at h
  simp only [Bool.and_eq_true, decide_eq_true_eq] at h
  exact h.1.1
theorem nb_range {c : Int} (h : nb c = true) : 45 ≤ c ∧ c ≤ 122 ∧ c ≠ 58 ∧ c ≠ 47 ∧ c ≠ 46 := by
  unfold nb at h
  simp only [Bool.or_eq_true, decide_eq_true_eq] at h
  omega
theorem stepC_self {c : UInt8} (h : c = 46 ∨ nb c.toNat = true) (last : Bool) : blankR (c.toNat : Int) = false ∧ stepC last (c.toNat : Int) = [c] ∧ c.toNat < 128 := by
  rcases h with rfl | h
  · exact ⟨rfl, by cases last <;> rfl, by decide⟩
  · have r := nb_range h
    have hb : blankR (c.toNat : Int) = false := by unfold blankR; simp; omega
    refine ⟨hb, ?_, by omega⟩
    unfold stepC
    rw [if_neg (by rw [hb]; simp), if_neg (by omega), if_pos (.inr ⟨by omega, h⟩)]
    simp
theorem gathP_self {l : List UInt8} (h : ∀ c ∈ l, c = 46 ∨ nb c.toNat = true) : ∀ (n pos : Nat), pos ≤ l.length → l.length - pos ≤ n → gathP l n pos false (l.take pos) = l
  | 0, pos, h1, h2 => by unfold gathP; rw [List.take_of_length_le (by omega)]
  | n + 1, pos, h1, h2 => by
    unfold gathP
    by_cases hp : pos < l.length
    · obtain ⟨s1, s2, s3⟩ := stepC_self (h l[pos] (List.getElem_mem hp)) false
      rw [if_pos hp, dec_lo hp s3]
      dsimp only
      rw [s1, s2]
      have e : l.take pos ++ [l[pos]] = l.take (pos + 1) := by rw [List.take_add_one, List.getElem?_eq_getElem hp]; rfl
      rw [e]
      exact gathP_self h n (pos + 1) (by omega) (by omega)
    · rw [if_neg hp, List.take_of_length_le (by omega)]
theorem clean_self {l : List UInt8} (h : okName l = true) : cleanV l = (l, true) := by
  have g : gath l = l := gathP_self (okName_bytes h) l.length 0 (Nat.zero_le _) (by omega)
  have k : keep List.isEmpty (cutA 46 [] l) = cutA 46 [] l := List.filter_eq_self.mpr fun p hp => by
    unfold okName at h
    simp only [Bool.and_eq_true, List.all_eq_true] at h
    have := h.2 p hp
    unfold okPiece at this
    simp only [Bool.and_eq_true] at this
    exact this.1
  have c : cleanL l = l := by unfold cleanL; rw [g, k, join_cut]; rfl
  unfold cleanV; rw [c, if_pos h]
theorem clean_ok {l : List UInt8} (h : (cleanV l).2 = true) : okName (cleanV l).1 = true := by
  unfold cleanV at h ⊢
  by_cases c : okName (cleanL l) = true
  · rw [if_pos c]; exact c
  · rw [if_neg c] at h; simp at h
/-! Check -/
def letE (k : Int) : List UInt8 := if k = 1 then [99] else if k = 2 then [103] else if k = 3 then [109, 115] else [115]
def fitsV (e : Ev) : Bool :=
  if 1000000000000000 < e.value ∨ e.value < -1000000000000000 ∨ (e.delta = true ∧ e.kind ≠ 2) then false
  else if e.kind = 3 then decide (0 ≤ e.value ∧ e.value ≤ 100000000000000 ∧ e.member = [])
  else if e.kind = 2 then decide ((e.delta = true ∨ 0 ≤ e.value) ∧ e.member = [])
  else if e.kind = 4 then decide (e.value = 0) && memL e.member
  else decide (e.member = [])
def checkV (e : Ev) : Int :=
  if okName e.name = false then 41
  else if isK e.kind = false then 43
  else if fitsV e = false then 42
  else if e.rate < 1000 ∨ 1000000 < e.rate ∨ (mayK e.kind = false ∧ e.rate ≠ 1000000) then 44
  else if (e.timed = true ∧ (e.time < 0 ∨ 1099511627775 < e.time)) ∨ (e.timed = false ∧ e.time ≠ 0) then 45
  else 0
structure May (e : Ev) : Prop where
  name : okName e.name = true
  kind : 1 ≤ e.kind ∧ e.kind ≤ 4
  value : -1000000000000000 ≤ e.value ∧ e.value ≤ 1000000000000000
  delta : e.delta = true → e.kind = 2
  gauge : e.kind = 2 → e.delta = true ∨ 0 ≤ e.value
  timer : e.kind = 3 → 0 ≤ e.value ∧ e.value ≤ 100000000000000
  set : e.kind = 4 → e.value = 0 ∧ memL e.member = true
  member : e.kind ≠ 4 → e.member = []
  rate : 1000 ≤ e.rate ∧ e.rate ≤ 1000000
  rated : mayK e.kind = false → e.rate = 1000000
  time : e.timed = true → 0 ≤ e.time ∧ e.time ≤ 1099511627775
  untimed : e.timed = false → e.time = 0
theorem isK_iff {k : Int} : isK k = true ↔ 1 ≤ k ∧ k ≤ 4 := by unfold isK; simp
theorem check_iff (e : Ev) : checkV e = 0 ↔ May e := by
  constructor
  · intro h
    unfold checkV at h
    split at h
    · simp at h
    · rename_i c1
      split at h
      · simp at h
      · rename_i c2
        split at h
        · simp at h
        · rename_i c3
          split at h
          · simp at h
          · rename_i c4
            split at h
            · simp at h
            · rename_i c5
              have k2 := isK_iff.mp (by simpa using c2)
              have k3 : fitsV e = true := by simpa using c3
              unfold fitsV at k3
              split at k3
              · cases k3
              · rename_i d1
                have r := fun (z : mayK e.kind = false) => Decidable.byContradiction fun (q : ¬ e.rate = 1000000) => c4 (.inr (.inr ⟨z, q⟩))
                have t1 : e.timed = true → 0 ≤ e.time ∧ e.time ≤ 1099511627775 := fun z => ⟨Int.not_lt.mp fun q => c5 (.inl ⟨z, .inl q⟩), Int.not_lt.mp fun q => c5 (.inl ⟨z, .inr q⟩)⟩
                have t2 : e.timed = false → e.time = 0 := fun z => Decidable.byContradiction fun q => c5 (.inr ⟨z, q⟩)
                have dl : e.delta = true → e.kind = 2 := fun z => Decidable.byContradiction fun q => d1 (.inr (.inr ⟨z, q⟩))
                have v1 : -1000000000000000 ≤ e.value ∧ e.value ≤ 1000000000000000 := by omega
                split at k3
                · rename_i e3
                  simp only [decide_eq_true_eq] at k3
                  exact ⟨by simpa using c1, k2, v1, dl, fun z => by omega, fun _ => ⟨k3.1, k3.2.1⟩, fun z => by omega, fun _ => k3.2.2, by omega, r, t1, t2⟩
                · rename_i e3
                  split at k3
                  · rename_i e2
                    simp only [decide_eq_true_eq] at k3
                    exact ⟨by simpa using c1, k2, v1, dl, fun z => k3.1, fun z => by omega, fun z => by omega, fun _ => k3.2, by omega, r, t1, t2⟩
                  · rename_i e2
                    split at k3
                    · rename_i e4
                      simp only [Bool.and_eq_true, decide_eq_true_eq] at k3
                      exact ⟨by simpa using c1, k2, v1, dl, fun z => by omega, fun z => by omega, fun z => k3, fun z => by omega, by omega, r, t1, t2⟩
                    · rename_i e4
                      simp only [decide_eq_true_eq] at k3
                      exact ⟨by simpa using c1, k2, v1, dl, fun z => by omega, fun z => by omega, fun z => by omega, fun z => k3, by omega, r, t1, t2⟩
  · intro m
    have f : fitsV e = true := by
      unfold fitsV
      rw [if_neg (by
        rintro (h | h | ⟨h, h2⟩)
        · have := m.value; omega
        · have := m.value; omega
        · exact h2 (m.delta h))]
      by_cases k3 : e.kind = 3
      · rw [if_pos k3]; exact decide_eq_true ⟨(m.timer k3).1, (m.timer k3).2, m.member (by omega)⟩
      · rw [if_neg k3]
        by_cases k2 : e.kind = 2
        · rw [if_pos k2]; exact decide_eq_true ⟨m.gauge k2, m.member (by omega)⟩
        · rw [if_neg k2]
          by_cases k4 : e.kind = 4
          · rw [if_pos k4, (m.set k4).2, decide_eq_true (m.set k4).1]; rfl
          · rw [if_neg k4]; exact decide_eq_true (m.member k4)
    unfold checkV
    rw [if_neg (by rw [m.name]; simp), if_neg (by rw [isK_iff.mpr m.kind]; simp), if_neg (by rw [f]; simp), if_neg (by
      rintro (h | h | ⟨h, h2⟩)
      · have := m.rate; omega
      · have := m.rate; omega
      · exact h2 (m.rated h)), if_neg (by
      rintro (⟨h, h2⟩ | ⟨h, h2⟩)
      · have := m.time h; omega
      · exact h2 (m.untimed h))]
end Go.Proofs.YtioahngbfdfcaaaGreatDoor
