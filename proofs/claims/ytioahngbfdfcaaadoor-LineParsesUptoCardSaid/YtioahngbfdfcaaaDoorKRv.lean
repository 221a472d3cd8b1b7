import Derived.Test.YtioahngbfdfcaaaDoorKRu
set_option linter.unusedVariables false
set_option linter.unusedSimpArgs false
namespace Go.Proofs.YtioahngbfdfcaaaDoor
open Go Go.Den Go.RowKit
variable {W0 : World}
/-! tumblerref03.Clean -/
theorem dec_drop (l : List UInt8) (pos : Nat) : Utf8.decode (bs (l.drop pos)) 0 = Utf8.decode (bs l) pos := by
  unfold Utf8.decode
  dsimp only
  have a : ∀ k, (bs (l.drop pos)).get! (0 + k) = (bs l).get! (pos + k) := fun k => by
    rw [get_bs, get_bs, Nat.zero_add, List.getD_eq_getElem?_getD, List.getD_eq_getElem?_getD, List.getElem?_drop]
  have s : ∀ k, decide (0 + k < (bs (l.drop pos)).size) = decide (pos + k < (bs l).size) := fun k => by
    rw [bs_size, bs_size, List.length_drop, decide_eq_decide]; omega
  simp only [a, s]
/-- What a rune gives, as the reference reads it. -/
theorem step_ref (last : Bool) (l : List UInt8) (pos : Nat) : blankR (r1 (l.drop pos)).1 = blankR (Utf8.decode (bs l) pos).1 ∧ stepC last (r1 (l.drop pos)).1 = stepC last (Utf8.decode (bs l) pos).1 ∧ (r1 (l.drop pos)).2 = ((Utf8.decode (bs l) pos).2 : Int) := by
  obtain ⟨h1, h2⟩ := r1_dec (l.drop pos)
  rw [dec_drop] at h1 h2
  refine ⟨?_, ?_, h1⟩
  · rcases h2 with h | ⟨h, h'⟩
    · rw [h]
    · rw [h, h']; rfl
  · rcases h2 with h | ⟨h, h'⟩
    · rw [h]
    · rw [h, h']
      cases last <;> rfl
/-! Points: one between two nodes. -/
def dstep (out : List UInt8) (c : UInt8) : List UInt8 := if c = 46 ∧ (out = [] ∨ out.getLast? = some 46) then out else out ++ [c]
def strip1 (o : List UInt8) : List UInt8 := if o.getLast? = some 46 then o.dropLast else o
def outF (ps : List (List UInt8)) (acc : List UInt8) : List UInt8 := ps.flatMap (fun p => p ++ [46]) ++ acc
theorem flat_join : ∀ (ps : List (List UInt8)) (a : List UInt8), ps.flatMap (fun p => p ++ [46]) ++ a = joinL [46] (ps ++ [a])
  | [], a => by simp [joinL, Lib.join, List.intercalate]
  | [p], a => by rw [List.singleton_append, join_cons2]; simp [joinL, Lib.join, List.intercalate]
  | p :: q :: r, a => by
    have := flat_join (q :: r) a
    rw [List.cons_append, List.cons_append, join_cons2, ← List.cons_append, ← this]; simp
theorem dd_cut : ∀ (t : List UInt8) (ps : List (List UInt8)) (acc : List UInt8), (46 : UInt8) ∉ acc → strip1 (t.foldl dstep (outF ps acc)) = joinL [46] (ps ++ keep List.isEmpty (cutA 46 acc t))
  | [], ps, acc, h => by
    rw [List.foldl_nil, cutA]
    unfold outF
    rcases List.eq_nil_or_concat acc with rfl | ⟨a, c, rfl⟩
    · rw [List.append_nil, show keep List.isEmpty [([] : List UInt8)] = [] from rfl, List.append_nil]
      rcases List.eq_nil_or_concat ps with rfl | ⟨qs, q, rfl⟩
      · rfl
      · rw [List.concat_eq_append, List.flatMap_append, List.flatMap_singleton, ← List.append_assoc]
        unfold strip1
        rw [List.getLast?_concat, if_pos rfl, List.dropLast_concat, flat_join]
    · rw [List.concat_eq_append] at h ⊢
      have hk : keep List.isEmpty [a ++ [c]] = [a ++ [c]] := by simp [keep]
      rw [hk, ← flat_join, ← List.append_assoc]
      unfold strip1
      rw [List.getLast?_concat, if_neg (fun z => h (by simp at z; simp [z]))]
  | c :: t, ps, acc, h => by
    rw [List.foldl_cons, cutA]
    by_cases hc : c = 46
    · subst hc
      rw [if_pos rfl]
      rcases List.eq_nil_or_concat acc with rfl | ⟨a, x, rfl⟩
      · have e : dstep (outF ps []) 46 = outF ps [] := by
          unfold dstep outF
          rw [List.append_nil, if_pos]
          refine ⟨rfl, ?_⟩
          rcases List.eq_nil_or_concat ps with rfl | ⟨qs, q, rfl⟩
          · exact .inl rfl
          · right
            rw [List.concat_eq_append, List.flatMap_append, List.flatMap_singleton, ← List.append_assoc, List.getLast?_concat]
        rw [e, dd_cut t ps [] (by simp)]
        rfl
      · rw [List.concat_eq_append] at h ⊢
        have e : dstep (outF ps (a ++ [x])) 46 = outF (ps ++ [a ++ [x]]) [] := by
          unfold dstep outF
          rw [if_neg]
          · simp
          · rintro ⟨_, z | z⟩
            · simp at z
            · rw [← List.append_assoc, List.getLast?_concat] at z
              exact h (by simp at z; simp [z])
        rw [e, dd_cut t _ [] (by simp)]
        have hk : keep List.isEmpty ((a ++ [x]) :: cutA 46 [] t) = (a ++ [x]) :: keep List.isEmpty (cutA 46 [] t) := by simp [keep]
        rw [hk]; simp
    · rw [if_neg hc]
      have e : dstep (outF ps acc) c = outF ps (acc ++ [c]) := by
        unfold dstep outF
        rw [if_neg (fun z => hc z.1)]; simp
      rw [e, dd_cut t ps (acc ++ [c]) (by simp [h]; exact fun z => hc z.symm)]
theorem clean_dd (l : List UInt8) : strip1 ((gath l).foldl dstep []) = cleanL l := dd_cut (gath l) [] [] (by simp)
end Go.Proofs.YtioahngbfdfcaaaDoor
