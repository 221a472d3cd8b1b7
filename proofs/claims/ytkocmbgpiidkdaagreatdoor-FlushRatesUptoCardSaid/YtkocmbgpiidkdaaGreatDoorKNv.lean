import Derived.Test.YtkocmbgpiidkdaaGreatDoorKNm
set_option linter.unusedVariables false
set_option linter.unusedSimpArgs false
namespace Go.Proofs.YtkocmbgpiidkdaaGreatDoor
open Go Go.Den Go.RowKit
variable {W0 : World}
/-! name.Valid -/
/-- What is known of the world: the variables of the library that are read. -/
structure WF (w : World) : Prop where
  maxLen : ∃ m, w.cell? ⟨G.maxLen, 0, none⟩ = some (.int .i64 m)
  utf : Lib.Utf8Tabs G.utfA G.utfB w
theorem tab_keep {w W : World} (h : Lib.TabIs Tryz.prog w "internal/strconv.uint64pow10" .u64 Lib.pow10Tab) (hb : Below w.heap.size w W) : Lib.TabIs Tryz.prog W "internal/strconv.uint64pow10" .u64 Lib.pow10Tab := by
  unfold Lib.TabIs World.var? at h ⊢
  cases hg : Tryz.prog.globalNamed "internal/strconv.uint64pow10" with
  | none => rw [hg] at h; cases h
  | some g =>
    rw [hg] at h
    simp only [Option.bind_some] at h ⊢
    have hlt : g < w.heap.size := by
      rcases Nat.lt_or_ge g w.heap.size with h' | h'
      · exact h'
      · rw [Array.getElem?_eq_none h'] at h; cases h
    rw [hb.block g hlt]
    exact h
theorem WF.keep {w W : World} (h : WF w) (hb : Below w.heap.size w W) : WF W :=
  ⟨h.maxLen.elim fun m hm => ⟨m, (hb.cell (p := ⟨G.maxLen, 0, none⟩) (World.block_lt_of_cell? w _ hm)).trans hm⟩, Go.Proofs.Utf8Tabs_below h.utf hb⟩
/-- A row of texts. -/
abbrev pcs (xs : List (List UInt8)) : List Value := xs.map fun p => Value.string (bs p)
theorem pcs_af (xs : List (List UInt8)) : ∀ v ∈ pcs xs, AF v := fun v hv => by
  obtain ⟨p, _, rfl⟩ := List.mem_map.mp hv; exact .string _
theorem split_args {l : List UInt8} {b : UInt8} : ∀ a ∈ [Value.string (bs l), Value.string ⟨#[b]⟩], AF a := fun a h => by
  rcases List.mem_cons.mp h with rfl | h
  · exact .string _
  · rcases List.mem_cons.mp h with rfl | h
    · exact .string _
    · cases h
theorem split_calls (hW : WF W0) (l : List UInt8) (hl : l.length ≤ 1048576) (b : UInt8) (w : World) (hb : Below W0.heap.size W0 w) :
    Calls Tryz.prog I.strings_Split [Value.string (bs l), Value.string ⟨#[b]⟩].toArray w fun e w' => e = .returned (.slice (some ⟨w.heap.size, 0, none⟩) (cutA b [] l).length (cutA b [] l).length) ∧ w' = w.alloc (.cells (pcs (cutA b [] l)).toArray Y.string) := by
  obtain ⟨m, hm⟩ := (hW.keep hb).maxLen
  have h := Tryz.strings_Split (bs l) ⟨#[b]⟩ m w (by rw [bs_size]; omega) hm (Nat.le_refl 1)
  have e1 := count_is b l
  have e2 := split_is b l [] (by simp)
  rw [List.nil_append] at e2
  rw [e1, e2, List.map_map] at h
  exact h
theorem strings_Split (hW : WF W0) (l : List UInt8) (hl : l.length ≤ 1048576) (b : UInt8) : PureF (C W0) I.strings_Split [.string (bs l), .string ⟨#[b]⟩] (LV (pcs (cutA b [] l)) (cutA b [] l).length) :=
  PureF.of_new split_args (pcs_af _) ⟨_, B.strings_Split, rfl, rfl⟩ fun w hb => split_calls hW l hl b w hb
theorem strings_SplitE (hW : WF W0) (l : List UInt8) (hl : l.length ≤ 1048576) (b : UInt8) (nid : Nat) : EffC (C W0) I.strings_Split [.string (bs l), .string ⟨#[b]⟩] nid ⟨some (.slice (some ⟨nid, 0, none⟩) (cutA b [] l).length (cutA b [] l).length), [], [], [.cells (pcs (cutA b [] l)) 1 true false Y.string]⟩ :=
  EffC.of_new nid split_args (pcs_af _) (by simp) ⟨_, B.strings_Split, rfl, rfl⟩ fun w hb => split_calls hW l hl b w hb
/-- The first place at which p holds. -/
def idxF (p : List UInt8 → Bool) (xs : List (List UInt8)) : Int := match xs.findIdx? p with
  | some i => (i : Int)
  | none => -1
theorem idxF_hit {p : List UInt8 → Bool} {xs : List (List UInt8)} {i : Nat} (hi : i < xs.length) (h : ∀ j (hj : j < i), p (xs[j]'(by omega)) = false) (hp : p xs[i] = true) : idxF p xs = (i : Int) := by
  have : xs.findIdx? p = some i := List.findIdx?_eq_some_iff_getElem.mpr ⟨hi, hp, fun j hj => by simp [h j hj]⟩
  unfold idxF; rw [this]
theorem idxF_none {p : List UInt8 → Bool} {xs : List (List UInt8)} (h : ∀ j (hj : j < xs.length), p xs[j] = false) : idxF p xs = -1 := by
  have : xs.findIdx? p = none := List.findIdx?_eq_none_iff.mpr fun x hx => by
    obtain ⟨j, hj, rfl⟩ := List.getElem_of_mem hx
    exact h j hj
  unfold idxF; rw [this]
theorem idxF_any (p : List UInt8 → Bool) (xs : List (List UInt8)) : decide (0 ≤ idxF p xs) = xs.any p := by
  unfold idxF
  cases h : xs.findIdx? p with
  | none =>
    have := List.findIdx?_eq_none_iff.mp h
    simp only [Int.reduceNeg]
    rw [decide_eq_false (by omega)]
    symm; rw [List.any_eq_false]; exact fun x hx => by simp [this x hx]
  | some i =>
    obtain ⟨hi, hp, _⟩ := List.findIdx?_eq_some_iff_getElem.mp h
    rw [decide_eq_true (by simp only []; omega)]
    symm; rw [List.any_eq_true]; exact ⟨xs[i], List.getElem_mem hi, hp⟩
theorem slices_IndexFunc (p : List UInt8 → Bool) (g : FuncId) (xs : List (List UInt8)) (hx : xs.length ≤ 1048577) (hp : ∀ x ∈ xs, PureF (C W0) g [.string (bs x)] (.bool (p x))) :
    PureF (C W0) I.slices_IndexFunc_string_string [LV (pcs xs) xs.length, .func (.func g) #[] #[]] (.int .i64 (idxF p xs)) := by
  refine PureF.E (CallP.of_body (C_ok W0) B.slices_IndexFunc_string_string rfl rfl rfl ?_)
  repeat' first
    | (apply Here.norm; (first | dsimp only [Env.putR, argEnv, pure1, newPtr, applyE, hset, List.length_cons, List.length_nil, List.length_append, List.set, List.cons_append, List.nil_append] | rfl); (first | dsimp only [Env.putR, argEnv, pure1, newPtr, applyE, hset, List.length_cons, List.length_nil, List.length_append, List.set, List.cons_append, List.nil_append] | rfl))
    | fail
  refine loop_I (C_ok W0) (fun i : Nat => i ≤ xs.length ∧ ∀ j (hj : j < xs.length), j < i → p xs[j] = false) (fun i => [(0, LV (pcs xs) xs.length), (1, .func (.func g) #[] #[]), (7, .int .i64 xs.length), (8, .int .i64 i)]) (fun _ => []) (fun i => xs.length - i) 0
    ⟨Nat.zero_le _, fun j _ h => by omega⟩ ⟨_, rfl, RT.of_eq rfl rfl⟩ ?_
  rintro i ⟨g1, g2⟩
  dsimp only
  by_cases hi : i < xs.length
  · have hv : (pcs xs)[((i : Int).toNat) * 1]? = some (.string (bs xs[i])) := by simp [hi]
    have pv := hp _ (List.getElem_mem hi)
    have w1 : IntKind.i64.wrap ((i : Int) + 1) = ((i + 1 : Nat) : Int) := by rw [wrap_in (by omega)]; omega
    cases hb : p xs[i] with
    | true =>
      rw [hb] at pv
      rw [idxF_hit hi (fun j hj => g2 j (by omega) hj) hb]
      repeat' first
        | refine brP.tD (by omega) ?_
        | refine ⟨_, hv, ?_⟩
        | refine (pv).call ?_
        | (apply Here.norm; (first | dsimp only [Env.putR, argEnv, pure1, newPtr, applyE, hset, List.length_cons, List.length_nil, List.length_append, List.set, List.cons_append, List.nil_append] | rfl); (first | dsimp only [Env.putR, argEnv, pure1, newPtr, applyE, hset, List.length_cons, List.length_nil, List.length_append, List.set, List.cons_append, List.nil_append] | rfl))
        | refine ⟨InB.mk (by first | decide | omega) (by first | decide | omega), ?_⟩
        | fail
      rfl
    | false =>
      rw [hb] at pv
      repeat' first
        | refine brP.tD (by omega) ?_
        | refine ⟨_, hv, ?_⟩
        | refine (pv).call ?_
        | (apply Here.norm; (first | dsimp only [Env.putR, argEnv, pure1, newPtr, applyE, hset, List.length_cons, List.length_nil, List.length_append, List.set, List.cons_append, List.nil_append] | rfl); (first | dsimp only [Env.putR, argEnv, pure1, newPtr, applyE, hset, List.length_cons, List.length_nil, List.length_append, List.set, List.cons_append, List.nil_append] | rfl))
        | refine ⟨InB.mk (by first | decide | omega) (by first | decide | omega), ?_⟩
        | fail
      apply Again.mk (i + 1)
      · exact ⟨by omega, fun j hj h => by
          by_cases e : j = i
          · subst e; exact hb
          · exact g2 j hj (by omega)⟩
      · omega
      refine ⟨_, rfl, RT.of_eq ?_ rfl⟩
      rw [w1]; rfl
  · rw [idxF_none (fun j hj => g2 j hj (by omega))]
    repeat' first
      | refine brP.fD (by omega) ?_
      | (apply Here.norm; (first | dsimp only [Env.putR, argEnv, pure1, newPtr, applyE, hset, List.length_cons, List.length_nil, List.length_append, List.set, List.cons_append, List.nil_append] | rfl); (first | dsimp only [Env.putR, argEnv, pure1, newPtr, applyE, hset, List.length_cons, List.length_nil, List.length_append, List.set, List.cons_append, List.nil_append] | rfl))
      | fail
    rfl
theorem slices_ContainsFunc (p : List UInt8 → Bool) (g : FuncId) (xs : List (List UInt8)) (hx : xs.length ≤ 1048577) (hp : ∀ x ∈ xs, PureF (C W0) g [.string (bs x)] (.bool (p x))) :
    PureF (C W0) I.slices_ContainsFunc_string_string [LV (pcs xs) xs.length, .func (.func g) #[] #[]] (.bool (xs.any p)) := by
  have ix := slices_IndexFunc (W0 := W0) p g xs hx hp
  refine PureF.E (CallP.of_body (C_ok W0) B.slices_ContainsFunc_string_string rfl rfl rfl ?_)
  rw [← idxF_any]
  repeat' first
    | refine (ix).call ?_
    | (apply Here.norm; (first | dsimp only [Env.putR, argEnv, pure1, newPtr, applyE, hset, List.length_cons, List.length_nil, List.length_append, List.set, List.cons_append, List.nil_append] | rfl); (first | dsimp only [Env.putR, argEnv, pure1, newPtr, applyE, hset, List.length_cons, List.length_nil, List.length_append, List.set, List.cons_append, List.nil_append] | rfl))
    | fail
  rfl
theorem bs_nil_iff {l : List UInt8} : bs l = ⟨#[]⟩ ↔ l = [] := ⟨fun h => bs_inj (b := []) h, fun h => by rw [h]; rfl⟩
theorem name_Valid_1 (l : List UInt8) (hl : l.length ≤ 1048576) : PureF (C W0) I.name_Valid_1 [.string (bs l)] (.bool (!okPiece l)) := by
  have nby := name_bytes (W0 := W0) l hl
  refine PureF.E (CallP.of_body (C_ok W0) B.name_Valid_1 rfl rfl rfl ?_)
  unfold okPiece
  by_cases h0 : l = []
  · have h1 : bs l = ⟨#[]⟩ := bs_nil_iff.mpr h0
    subst h0
    repeat' first
      | (apply Here.norm; (first | dsimp only [Env.putR, argEnv, pure1, newPtr, applyE, hset, List.length_cons, List.length_nil, List.length_append, List.set, List.cons_append, List.nil_append] | rfl); (first | dsimp only [Env.putR, argEnv, pure1, newPtr, applyE, hset, List.length_cons, List.length_nil, List.length_append, List.set, List.cons_append, List.nil_append] | rfl))
      | fail
    rfl
  · have h1 : ¬ bs l = ⟨#[]⟩ := fun h => h0 (bs_nil_iff.mp h)
    have e : l.isEmpty = false := by cases l with | nil => exact absurd rfl h0 | cons => rfl
    rw [e, Bool.not_false, Bool.true_and]
    repeat' first
      | refine brP.fD h1 ?_
      | refine (nby).call ?_
      | (apply Here.norm; (first | dsimp only [Env.putR, argEnv, pure1, newPtr, applyE, hset, List.length_cons, List.length_nil, List.length_append, List.set, List.cons_append, List.nil_append] | rfl); (first | dsimp only [Env.putR, argEnv, pure1, newPtr, applyE, hset, List.length_cons, List.length_nil, List.length_append, List.set, List.cons_append, List.nil_append] | rfl))
      | fail
    rfl
theorem name_Valid (hW : WF W0) (l : List UInt8) (hl : l.length ≤ 1048576) : PureF (C W0) I.name_Valid [.string (bs l)] (.bool (okName l)) := by
  have hsz := bs_size l
  have sp := strings_Split hW l hl 46
  have lb := cutA_len 46 l []
  have cf := slices_ContainsFunc (W0 := W0) (fun p => !okPiece p) I.name_Valid_1 (cutA 46 [] l) (by omega) (fun x hx => name_Valid_1 x (by have := cutA_small 46 l [] x hx; simp at this; omega))
  rw [← List.not_all_eq_any_not] at cf
  refine PureF.E (CallP.of_body (C_ok W0) B.name_Valid rfl rfl rfl ?_)
  unfold okName
  by_cases h1 : l.length ≤ 200
  · rw [decide_eq_true h1, Bool.true_and]
    by_cases h2 : (cutA 46 [] l).length ≤ 16
    · rw [decide_eq_true h2, Bool.true_and]
      repeat' first
        | refine brP.fD (by omega) ?_
        | refine (sp).call ?_
        | refine (cf).call ?_
        | (apply Here.norm; (first | dsimp only [Env.putR, argEnv, pure1, newPtr, applyE, hset, List.length_cons, List.length_nil, List.length_append, List.set, List.cons_append, List.nil_append] | rfl); (first | dsimp only [Env.putR, argEnv, pure1, newPtr, applyE, hset, List.length_cons, List.length_nil, List.length_append, List.set, List.cons_append, List.nil_append] | rfl))
        | fail
      exact congrArg Value.bool (Bool.not_not _)
    · rw [decide_eq_false h2, Bool.false_and]
      repeat' first
        | refine brP.tD (by omega) ?_
        | refine brP.fD (by omega) ?_
        | refine (sp).call ?_
        | (apply Here.norm; (first | dsimp only [Env.putR, argEnv, pure1, newPtr, applyE, hset, List.length_cons, List.length_nil, List.length_append, List.set, List.cons_append, List.nil_append] | rfl); (first | dsimp only [Env.putR, argEnv, pure1, newPtr, applyE, hset, List.length_cons, List.length_nil, List.length_append, List.set, List.cons_append, List.nil_append] | rfl))
        | fail
      rfl
  · rw [decide_eq_false h1, Bool.false_and, Bool.false_and]
    repeat' first
      | refine brP.tD (by omega) ?_
      | refine (sp).call ?_
      | (apply Here.norm; (first | dsimp only [Env.putR, argEnv, pure1, newPtr, applyE, hset, List.length_cons, List.length_nil, List.length_append, List.set, List.cons_append, List.nil_append] | rfl); (first | dsimp only [Env.putR, argEnv, pure1, newPtr, applyE, hset, List.length_cons, List.length_nil, List.length_append, List.set, List.cons_append, List.nil_append] | rfl))
      | fail
    rfl
end Go.Proofs.YtkocmbgpiidkdaaGreatDoor
