import Derived.Test.YtioahngbfdfcaaaDoorKSg
import Derived.Test.YtioahngbfdfcaaaDoorKRw2
set_option linter.unusedVariables false
set_option linter.unusedSimpArgs false
namespace Go.Proofs.YtioahngbfdfcaaaDoor
open Go Go.Den Go.RowKit
variable {W0 : World}
/-! tumblerref04: Parse, the plain part -/
theorem cutA_app {b : UInt8} : ∀ {p acc r : List UInt8}, b ∉ p → cutA b acc (p ++ r) = cutA b (acc ++ p) r
  | [], acc, r, _ => by simp
  | c :: p, acc, r, h => by
    have hc : c ≠ b := fun z => h (by simp [z])
    rw [List.cons_append, cutA, if_neg hc, cutA_app (fun z => h (List.mem_cons_of_mem _ z))]
    simp
theorem cut_bar : ∀ (vs : List (List UInt8)) (p : List UInt8), (124 : UInt8) ∉ p → (∀ q ∈ vs, (124 : UInt8) ∉ q) → cutA 124 [] (p ++ barJ vs) = p :: vs
  | [], p, hp, _ => by rw [cutA_app hp]; simp [barJ, cutA]
  | q :: vs, p, hp, hq => by
    rw [cutA_app hp, barJ_cons, cutA, if_pos rfl, cut_bar vs q (hq q (by simp)) (fun z h => hq z (List.mem_cons_of_mem _ h))]; simp
theorem prtF_at : ∀ (ps : List (List UInt8)) (k j : Nat) (h : j < ps.length), (prtF k ps)[j]? = some (ps[j], k + (barJ (ps.take j)).length)
  | p :: ps, k, 0, h => by simp [prtF, barJ]
  | p :: ps, k, j + 1, h => by
    rw [prtF, List.getElem?_cons_succ, prtF_at ps _ j (by simpa using h), List.take_succ_cons, barJ_cons]
    simp; omega
theorem prtC_at : ∀ (ps : List (List UInt8 × Nat)) (j : Nat) (x : List UInt8 × Nat), ps[j]? = some x → (prtC ps)[j * 2]? = some (.string (bs x.1)) ∧ (prtC ps)[j * 2 + 1]? = some (.int .i64 x.2)
  | p :: ps, 0, x, h => by
    simp at h; subst h; unfold prtC; simp
  | p :: ps, j + 1, x, h => by
    have := prtC_at ps j x (by simpa using h)
    have e : prtC (p :: ps) = [.string (bs p.1), .int .i64 p.2] ++ prtC ps := by simp [prtC]
    rw [e, show (j + 1) * 2 = j * 2 + 2 by omega]
    exact ⟨by simpa using this.1, by simpa using this.2⟩
theorem step_ok {e : Ev} {r : Bool} {p : List UInt8} (h : (stepP e r p).2.2 = 0) : p ≠ [] ∧ (stepP e r p).2.1 = (r || heads 64 p) ∧ (stepP e r p).1.kind = e.kind := by
  unfold stepP at h ⊢
  by_cases c1 : heads 64 p = true ∧ r = false ∧ e.timed = false
  · rw [if_pos c1] at h ⊢
    by_cases c2 : (parseV p.tail).2 = 0 ∧ 1000 ≤ (parseV p.tail).1 ∧ (parseV p.tail).1 ≤ 1000000 ∧ mayK e.kind = true
    · rw [if_pos c2]
      exact ⟨fun z => by rw [z] at c1; exact absurd c1.1 (by simp [heads]), by simp [c1.1, c1.2.1], rfl⟩
    · rw [if_neg c2] at h; simp at h
  · rw [if_neg c1] at h ⊢
    by_cases c2 : heads 84 p = true ∧ e.timed = false
    · rw [if_pos c2] at h ⊢
      by_cases c3 : (stampV p.tail).2 = true
      · rw [if_pos c3]
        refine ⟨fun z => by rw [z] at c2; exact absurd c2.1 (by simp [heads]), ?_, rfl⟩
        have : heads 64 p = false := by
          cases p with
          | nil => rfl
          | cons c t =>
            have : c = 84 := of_decide_eq_true c2.1
            subst this; rfl
        simp [this]
      · rw [if_neg c3] at h; simp at h
    · rw [if_neg c2] at h; simp at h
theorem colon_ex : ∀ {s : List UInt8}, (58 : UInt8) ∈ s → ∃ a t, s = a ++ 58 :: t ∧ (58 : UInt8) ∉ a
  | [], h => by cases h
  | c :: s, h => by
    by_cases hc : c = 58
    · exact ⟨[], s, by rw [hc]; rfl, by simp⟩
    · obtain ⟨a, t, e, hn⟩ := colon_ex (s := s) (by rcases List.mem_cons.mp h with z | z; exact absurd z.symm hc; exact z)
      exact ⟨c :: a, t, by rw [e]; rfl, by simp [hn]; exact fun z => hc z.symm⟩
/-- A line at its colon, its pieces. -/
theorem line_ex {s : List UInt8} (h : (58 : UInt8) ∈ s) : ∃ n p vs, s = n ++ 58 :: (p ++ barJ vs) ∧ upto 58 s = n ∧ at1 s = n.length + 1 ∧ s.drop (at1 s) = p ++ barJ vs ∧ (58 : UInt8) ∉ n ∧ (124 : UInt8) ∉ p ∧ ∀ q ∈ vs, (124 : UInt8) ∉ q := by
  obtain ⟨a, t, e, hn⟩ := colon_ex h
  obtain ⟨p, vs, e2, h1, h2⟩ := ex_bar t
  have u : upto 58 s = a := by rw [e]; exact upto_app hn
  have a1 : at1 s = a.length + 1 := by unfold at1; rw [u]
  exact ⟨a, p, vs, by rw [e, e2], u, a1, by rw [a1, e, e2, List.drop_append]; simp, hn, h1, h2⟩
theorem parse_no {n p : List UInt8} (hn : (58 : UInt8) ∉ n) (hp : (124 : UInt8) ∉ p) (hl : (n ++ 58 :: p).length ≤ 1024) (c : (cleanV n).2 = true) : parseL (n ++ 58 :: p) = (ev0, ((n ++ 58 :: p).length : Int), 43) := by
  have u : upto 58 (n ++ 58 :: p) = n := upto_app hn
  have a1 : at1 (n ++ 58 :: p) = n.length + 1 := by unfold at1; rw [u]
  have v1 : val1 (n ++ 58 :: p) = p := by
    unfold val1 pieceL
    rw [a1, List.drop_append]
    simp only [List.drop_eq_nil_of_le (show n.length ≤ n.length + 1 by omega), Nat.add_sub_cancel_left, List.nil_append, List.drop_succ_cons, List.drop_zero]
    have := upto_bar hp []
    simpa [barJ] using this
  unfold parseL
  rw [if_neg (by omega), if_pos (by simp), u, if_pos c, if_neg (by unfold at2; rw [a1, v1]; simp; omega)]
theorem parse_41 {n t : List UInt8} (hn : (58 : UInt8) ∉ n) (hl : (n ++ 58 :: t).length ≤ 1024) (c : ¬ (cleanV n).2 = true) : parseL (n ++ 58 :: t) = (ev0, 0, 41) := by
  unfold parseL
  rw [if_neg (by omega), if_pos (by simp), upto_app hn, if_neg c]
end Go.Proofs.YtioahngbfdfcaaaDoor
