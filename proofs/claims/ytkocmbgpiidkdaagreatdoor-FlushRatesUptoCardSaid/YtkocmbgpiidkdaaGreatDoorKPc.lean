import Derived.Test.YtkocmbgpiidkdaaGreatDoorKPt
import Derived.Lib.SplitLaws
import Derived.Lib.CountLaws
import Derived.Lib.Join
import Derived.Lib.Bytealg
set_option linter.unusedVariables false
set_option linter.unusedSimpArgs false
/- Texts cut at points; joined again: plain lemmas. -/
namespace Go.Proofs.YtkocmbgpiidkdaaGreatDoor
open Go Go.Den Go.RowKit
/-- Cut at a byte: what was gathered, what is left. -/
def cutA (b : UInt8) : List UInt8 → List UInt8 → List (List UInt8)
  | acc, [] => [acc]
  | acc, c :: t => if c = b then acc :: cutA b [] t else cutA b (acc ++ [c]) t
abbrev cutP (l : List UInt8) : List (List UInt8) := cutA 46 [] l
abbrev dotB : ByteArray := ⟨#[46]⟩
theorem cutA_len (b : UInt8) (t : List UInt8) : ∀ acc, 1 ≤ (cutA b acc t).length ∧ (cutA b acc t).length ≤ t.length + 1 := by
  induction t with
  | nil => intro acc; simp [cutA]
  | cons c t ih =>
    intro acc
    unfold cutA
    split
    · have := ih []; simp; omega
    · have := ih (acc ++ [c]); simp; omega
theorem cutA_small (b : UInt8) (t : List UInt8) : ∀ acc, ∀ p ∈ cutA b acc t, p.length ≤ acc.length + t.length := by
  induction t with
  | nil => intro acc p hp; simp [cutA] at hp; subst hp; simp
  | cons c t ih =>
    intro acc p hp
    unfold cutA at hp
    split at hp
    · rcases List.mem_cons.mp hp with rfl | hp
      · simp
      · have := ih [] p hp; simp at this ⊢; omega
    · have := ih (acc ++ [c]) p hp; simp at this ⊢; omega
theorem occ_one (b : UInt8) (l : List UInt8) (j : Nat) : Lib.occAt l [b] j = decide (l[j]? = some b) := by
  unfold Lib.occAt
  by_cases h : j < l.length
  · rw [List.drop_eq_getElem_cons h, List.getElem?_eq_getElem h]
    simp only [List.isPrefixOf, Bool.and_true]
    by_cases hx : l[j] = b
    · rw [hx]; simp
    · have h1 : (b == l[j]) = false := by simpa using fun h => hx h.symm
      rw [h1, decide_eq_false (by simpa using hx)]
  · rw [List.drop_eq_nil_of_le (by omega), List.getElem?_eq_none (by omega)]
    simp [List.isPrefixOf]
theorem idx_no (b : UInt8) {l : List UInt8} (h : b ∉ l) : Lib.indexB (bs l) ⟨#[b]⟩ = -1 := by
  refine Lib.index_none (fun j _ => ?_)
  show Lib.occAt l [b] j = false
  rw [occ_one, decide_eq_false]
  exact fun e => h (List.mem_of_getElem? e)
theorem idx_at (b : UInt8) {a t : List UInt8} (h : b ∉ a) : Lib.indexB (bs (a ++ b :: t)) ⟨#[b]⟩ = (a.length : Int) := by
  refine Lib.index_first (i := a.length) ?_ ?_ ?_
  · show a.length ≤ (a ++ b :: t).length; simp
  · show Lib.occAt (a ++ b :: t) [b] a.length = true
    rw [occ_one]; simp
  · intro j hj
    show Lib.occAt (a ++ b :: t) [b] j = false
    rw [occ_one, List.getElem?_append_left hj, decide_eq_false]
    exact fun e => h (List.mem_of_getElem? e)
theorem split_is (b : UInt8) (t : List UInt8) : ∀ acc, b ∉ acc → Lib.splitB ⟨#[b]⟩ 0 (Lib.countB (bs (acc ++ t)) ⟨#[b]⟩) (bs (acc ++ t)) = (cutA b acc t).map bs := by
  induction t with
  | nil =>
    intro acc h
    rw [List.append_nil, Lib.splitB_miss _ _ _ _ (idx_no b h)]; rfl
  | cons c t ih =>
    intro acc h
    unfold cutA
    by_cases hc : c = b
    · subst hc
      have hi := idx_at c (t := t) h
      rw [if_pos rfl, Lib.countB_hit _ ⟨#[c]⟩ acc.length (Nat.le_refl 1) hi, Nat.add_comm 1, Lib.splitB_hit _ _ _ _ _ hi]
      have e1 : (bs (acc ++ c :: t)).extract 0 (acc.length + 0) = bs acc := by rw [bs_extract]; simp
      have e2 : (bs (acc ++ c :: t)).extract (acc.length + (⟨#[c]⟩ : ByteArray).size) (bs (acc ++ c :: t)).size = bs t := by
        rw [bs_extract, bs_size, show (⟨#[c]⟩ : ByteArray).size = 1 from rfl, List.take_of_length_le (by simp; omega)]
        congr 1
        rw [show acc ++ c :: t = (acc ++ [c]) ++ t by simp, List.drop_left' (by simp)]
      rw [e1, e2, List.map_cons]
      congr 1
      exact ih [] (by simp)
    · rw [if_neg hc]
      have := ih (acc ++ [c]) (by simp; exact ⟨h, fun e => hc e.symm⟩)
      rw [List.append_assoc] at this
      exact this
theorem count_is (b : UInt8) (l : List UInt8) : Lib.countB (bs l) ⟨#[b]⟩ + 1 = (cutA b [] l).length := by
  have h := split_is b l [] (by simp)
  rw [List.nil_append] at h
  have h2 := Lib.splitB_all ⟨#[b]⟩ (Nat.le_refl 1) 0 _ (bs l) rfl
  rw [h, List.length_map] at h2
  omega
theorem index_is (b : UInt8) (l : List UInt8) : Lib.indexByte l b = if b ∈ l then ((l.takeWhile (fun c => decide (c ≠ b))).length : Int) else -1 := by
  induction l with
  | nil => simp [Lib.indexByte]
  | cons c t ih =>
    unfold Lib.indexByte
    by_cases hc : c = b
    · subst hc; simp
    · have h1 : (c == b) = false := by simpa using hc
      have h2 : ¬ b = c := fun e => hc e.symm
      rw [h1, ih]
      simp only [Bool.false_eq_true, if_false, List.mem_cons, h2, false_or, List.takeWhile_cons, hc, ne_eq, not_false_eq_true, decide_true, if_true, List.length_cons]
      by_cases hm : b ∈ t
      · rw [if_pos hm, if_pos hm, if_neg (by simp)]; omega
      · rw [if_neg hm, if_neg hm]; rfl
end Go.Proofs.YtkocmbgpiidkdaaGreatDoor
