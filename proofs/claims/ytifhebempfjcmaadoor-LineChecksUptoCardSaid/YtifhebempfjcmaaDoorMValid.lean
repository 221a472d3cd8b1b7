/- name.Valid and tumblerref03.Valid are one: the walk over the pieces between points. -/
import Derived.Test.YtifhebempfjcmaaDoorPxf9
import Derived.Test.YtifhebempfjcmaaDoorPxf12
import Derived.Test.YtifhebempfjcmaaDoorMine
namespace Go.Proofs.YtifhebempfjcmaaDoor.MM
open Go.RowKit Go.Proofs.YtifhebempfjcmaaDoor.P Go.Proofs.YtifhebempfjcmaaDoorW.PrintWords Go.Proofs.YtifhebempfjcmaaDoorW.PrintMore Go.Proofs.YtifhebempfjcmaaDoor.Mine
set_option linter.unusedVariables false
set_option linter.unusedSimpArgs false

/-- What both answer. -/
def vB (s : ByteArray) : Bool := decide (s.size ≤ 200) && decide ((pieces s).length ≤ 16) && (pieces s).all okPiece
theorem ValidN_is (s : ByteArray) (hs : s.size ≤ 1048576) : name_Valid.f s = some (vB s) := by
  unfold name_Valid.f vB; rw [if_pos (by omega)]
theorem Byte_is (c : Int) (k : Nat) : tumblerref03_Byte.f (k + 3) c = some (nb c) := by
  unfold tumblerref03_Byte.f tumblerref03_Sort.f
  by_cases h1 : c ≥ 48 <;> by_cases h2 : c ≤ 57 <;> by_cases h3 : c ≥ 65 <;> by_cases h4 : c ≤ 90 <;> by_cases h5 : c ≥ 97 <;> by_cases h6 : c ≤ 122 <;> by_cases h7 : c = 95 <;> by_cases h8 : c = 45 <;> first | omega | simp [tumblerref03_Sort.j0, tumblerref03_Sort.j1, nb, h1, h2, h3, h4, h5, h6, h7, h8] <;> omega
theorem w64 (i : Nat) (h : i < 4611686018427387904) : wrap64 ((i : Int) + 1) = ((i + 1 : Nat) : Int) := by unfold wrap64; omega
theorem BytesR_from (s : ByteArray) (hs : s.size < 4611686018427387904) : ∀ (n i k : Nat), i + n = s.size → tumblerref03_Bytes.l0 (k + n + 4) s i = some (okFrom s n i) := by
  intro n
  induction n with
  | zero =>
    intro i k h
    have e : i = s.size := by omega
    subst e
    simp [tumblerref03_Bytes.l0, okFrom]
  | succ n ih =>
    intro i k h
    have c1 : (i : Int) < (s.size : Int) := by omega
    have c2 : (0 : Int) ≤ i := by omega
    have e : k + (n + 1) + 4 = (k + n + 4) + 1 := by omega
    rw [e, tumblerref03_Bytes.l0, if_pos c1, if_pos c2, show k + n + 4 = (k + n + 1) + 3 by omega, Byte_is]
    simp only [Option.bind_some, okFrom]
    cases nb (bt s i) with
    | false => rfl
    | true =>
      rw [w64 i (by omega), show k + n + 1 + 3 = k + n + 4 by omega, ih (i + 1) k (by omega)]
      rfl
theorem BytesR_is (s : ByteArray) (hs : s.size < 4611686018427387904) (k : Nat) : tumblerref03_Bytes.f (k + s.size + 4) s = some (okBytes s) := BytesR_from s hs s.size 0 k (by omega)
theorem isEmpty_iff' (p : ByteArray) : p.toList = ([] : List UInt8) ↔ p.toList.isEmpty = true := List.isEmpty_iff.symm
theorem ValidL (l : List ByteArray) (hl : ∀ p ∈ l, p.size ≤ 200) (hn : l.length < 4611686018427387904) : ∀ (n i k : Nat), i + n = l.length → tumblerref03_Valid.l0 (k + n + 205) l i = some ((l.drop i).all okPiece && decide (l.length ≤ 16)) := by
  intro n
  induction n with
  | zero =>
    intro i k h
    have e : i = l.length := by omega
    subst e
    simp [tumblerref03_Valid.l0]
    omega
  | succ n ih =>
    intro i k h
    have hi : i < l.length := by omega
    have c1 : (i : Int) < (l.length : Int) := by omega
    have c2 : (0 : Int) ≤ i := by omega
    have er : rdOf ByteArray.empty l (i : Int) = l[i] := by simp [rdOf, hi]
    have hp : (l[i]).size ≤ 200 := hl _ (List.getElem_mem hi)
    rw [show k + (n + 1) + 205 = (k + n + 205) + 1 by omega, tumblerref03_Valid.l0, if_pos c1, if_pos c2, er, List.drop_eq_getElem_cons hi]
    simp only [List.all_cons, okPiece]
    by_cases c3 : (l[i]).toList = ([] : List UInt8)
    · rw [if_pos c3, (isEmpty_iff' _).mp c3]
      rfl
    · rw [if_neg c3]
      have c4 : (l[i]).toList.isEmpty = false := by
        cases hq : (l[i]).toList.isEmpty with
        | false => rfl
        | true => exact absurd ((isEmpty_iff' _).mpr hq) c3
      obtain ⟨j, hj⟩ : ∃ j, k + n + 205 = j + (l[i]).size + 4 := ⟨k + n + 205 - 4 - (l[i]).size, by omega⟩
      rw [c4, hj, BytesR_is _ (by omega) j]
      simp only [Option.bind_some, Bool.not_false, Bool.true_and]
      cases okBytes l[i] with
      | false => rfl
      | true =>
        rw [if_pos rfl, w64 i (by omega), ← hj, ih (i + 1) k (by omega)]
        simp [okPiece]
theorem occ_at (s : ByteArray) (m : Nat) (h : m < s.size) : ([46] : List UInt8).isPrefixOf (s.data.toList.drop m) = decide (bt s m = 46) := by
  have hm : m < s.data.toList.length := by simpa using h
  have e : bt s (m : Int) = ((s.data.toList[m]).toNat : Int) := by
    unfold bt
    rw [dif_pos (show ((m : Int)).toNat < s.size by simpa using h)]
    rfl
  rw [e, List.drop_eq_getElem_cons hm]
  generalize s.data.toList[m] = x
  simp only [List.isPrefixOf, Bool.and_true]
  by_cases hx : x = 46
  · subst hx; rfl
  · have h1 : ((46 : UInt8) == x) = false := by simp; exact fun h => hx h.symm
    have h2 : ¬ ((x.toNat : Int) = 46) := fun h => hx (UInt8.toNat_inj.mp (by show x.toNat = 46; omega))
    rw [h1, decide_eq_false h2]
theorem ext_list (s : ByteArray) (f : Nat) : (s.extract f s.size).data.toList = s.data.toList.drop f := Lib.extract_to_end s f
theorem occ_ext (s : ByteArray) (f j : Nat) (h : f + j < s.size) : Lib.occAt (s.extract f s.size).data.toList [46] j = decide (bt s ((f + j : Nat) : Int) = 46) := by
  unfold Lib.occAt
  rw [ext_list, List.drop_drop, occ_at s (f + j) h]
theorem occ_end (s : ByteArray) (f j : Nat) (h : s.size ≤ f + j) : Lib.occAt (s.extract f s.size).data.toList [46] j = false := by
  unfold Lib.occAt
  rw [ext_list, List.drop_drop, List.drop_eq_nil_of_le (by simpa using h)]
  rfl
theorem idx_none (s : ByteArray) (f : Nat) (h : ∀ j : Nat, f ≤ j → j < s.size → bt s j ≠ 46) : Lib.indexB (s.extract f s.size) dotB = -1 := by
  refine Lib.index_none (fun j hj => ?_)
  show Lib.occAt (s.extract f s.size).data.toList [46] j = false
  by_cases c : f + j < s.size
  · rw [occ_ext s f j c]; exact decide_eq_false (h (f + j) (by omega) c)
  · exact occ_end s f j (by omega)
theorem idx_hit (s : ByteArray) (f i : Nat) (hf : f ≤ i) (hi : i < s.size) (h : ∀ j : Nat, f ≤ j → j < i → bt s j ≠ 46) (hd : bt s i = 46) : Lib.indexB (s.extract f s.size) dotB = ((i - f : Nat) : Int) := by
  refine Lib.index_first (i := i - f) ?_ ?_ ?_
  · rw [ext_list]; simp; omega
  · show Lib.occAt (s.extract f s.size).data.toList [46] (i - f) = true
    rw [occ_ext s f (i - f) (by omega), show f + (i - f) = i by omega]; exact decide_eq_true hd
  · intro j hj
    show Lib.occAt (s.extract f s.size).data.toList [46] j = false
    rw [occ_ext s f j (by omega)]; exact decide_eq_false (h (f + j) (by omega) (by omega))
theorem Cut_from (s : ByteArray) (hs : s.size ≤ 1048576) : ∀ (n i k f : Nat) (acc : List ByteArray), i + n = s.size → f ≤ i → (∀ j : Nat, f ≤ j → j < i → bt s j ≠ 46) → acc.length ≤ i →
    tumblerref03_Cut.l0 (k + n + 3) s acc f i = some (acc ++ Lib.splitB dotB 0 (Lib.countB (s.extract f s.size) dotB) (s.extract f s.size)) := by
  intro n
  induction n with
  | zero =>
    intro i k f acc h hf hno ha
    have e : i = s.size := by omega
    subst e
    have c1 : ((s.size : Int)) ≤ (s.size : Int) := Int.le_refl _
    have c2 : (0 : Int) ≤ (f : Int) := by omega
    have c3 : (f : Int) ≤ (s.size : Int) := by omega
    have c4 : acc.length < 8796093022208 := by omega
    have hm := idx_none s f hno
    rw [show k + 0 + 3 = (k + 2) + 1 by omega, tumblerref03_Cut.l0, if_pos c1, if_pos rfl, if_pos c2, if_pos c3, if_pos c4, w64 _ (by omega), show k + 2 = (k + 1) + 1 by omega, tumblerref03_Cut.l0, if_neg (by omega), Lib.splitB_miss _ _ _ _ hm]
    rfl
  | succ n ih =>
    intro i k f acc h hf hno ha
    have c1 : ((i : Int)) ≤ (s.size : Int) := by omega
    have c1' : ¬ ((i : Int)) = (s.size : Int) := by omega
    have c2 : (0 : Int) ≤ (f : Int) := by omega
    have c2' : (0 : Int) ≤ (i : Int) := by omega
    have c3 : (f : Int) ≤ (i : Int) := by omega
    have c3' : (i : Int) < (s.size : Int) := by omega
    have c4 : acc.length < 8796093022208 := by omega
    rw [show k + (n + 1) + 3 = (k + n + 3) + 1 by omega, tumblerref03_Cut.l0, if_pos c1, if_neg c1', if_pos c2', if_pos c3']
    by_cases hd : bt s i = 46
    · have hi := idx_hit s f i hf (by omega) hno hd
      have hc := Lib.countB_hit (s.extract f s.size) dotB (i - f) (by decide) hi
      have ex : (s.extract f s.size).extract (i - f + dotB.size) (s.extract f s.size).size = s.extract (i + 1) s.size := by
        apply ByteArray.ext
        apply Array.ext'
        rw [ext_list, Lib.extract_to_end, ext_list, List.drop_drop]
        congr 1
        show f + (i - f + 1) = i + 1
        omega
      have ex0 : (s.extract f s.size).extract 0 (i - f + 0) = s.extract f i := by
        apply ByteArray.ext
        apply Array.ext'
        rw [Lib.extract_data, Lib.extract_data, Lib.extract_data, List.drop_zero, List.take_take]
        congr 1
        omega
      rw [if_pos hd, if_pos c2, if_pos c3, if_pos c4, w64 i (by omega), ih (i + 1) k (i + 1) _ (by omega) (Nat.le_refl _) (fun j h1 h2 => by omega) (by simp; omega)]
      rw [hc, Nat.add_comm 1, Lib.splitB_hit _ _ _ _ _ hi, ex, ex0]
      simp
    · rw [if_neg hd, w64 i (by omega), ih (i + 1) k f acc (by omega) (by omega) (fun j h1 h2 => by
        by_cases hj : j = i
        · subst hj; exact hd
        · exact hno j h1 (by omega)) (by omega)]
theorem Cut_is (s : ByteArray) (hs : s.size ≤ 1048576) (k : Nat) : tumblerref03_Cut.f (k + s.size + 3) s = some (pieces s) := by
  have h := Cut_from s hs s.size 0 k 0 [] (by omega) (Nat.le_refl _) (fun j h1 h2 => by omega) (by simp)
  have e : s.extract 0 s.size = s := by simp
  rw [e] at h
  exact h
theorem ValidR_is (s : ByteArray) (hs : s.size ≤ 1048576) (k : Nat) (hk : 700 ≤ k) : tumblerref03_Valid.f k s = some (vB s) := by
  unfold tumblerref03_Valid.f vB
  by_cases c : s.size ≤ 200
  · obtain ⟨j, hj⟩ : ∃ j, k = j + s.size + 3 := ⟨k - 3 - s.size, by omega⟩
    have hl : (pieces s).length = Lib.countB s dotB + 1 := Lib.splitB_all dotB (by decide) 0 _ s rfl
    have hle := Lib.countB_le dotB (by decide) s.size s (Nat.le_refl _)
    obtain ⟨m, hm⟩ : ∃ m, k = m + (pieces s).length + 205 := ⟨k - 205 - (pieces s).length, by omega⟩
    have e1 := Cut_is s hs j
    rw [← hj] at e1
    have e2 := ValidL (pieces s) (fun p hp => Nat.le_trans (splitB_small dotB 0 s.size _ s (Nat.le_refl _) p hp) c) (by omega) (pieces s).length 0 m (by omega)
    rw [← hm] at e2
    rw [if_neg (by omega), e1]
    simp only [Option.bind_some]
    refine Eq.trans e2 ?_
    simp [c, Bool.and_comm]
  · rw [if_pos (by omega)]
    simp [c]
end Go.Proofs.YtifhebempfjcmaaDoor.MM
