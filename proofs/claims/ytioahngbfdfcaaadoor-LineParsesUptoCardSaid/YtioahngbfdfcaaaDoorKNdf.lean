import Derived.Test.YtioahngbfdfcaaaDoorKNv
set_option linter.unusedVariables false
set_option linter.unusedSimpArgs false
namespace Go.Proofs.YtioahngbfdfcaaaDoor
open Go Go.Den Go.RowKit
variable {W0 : World}
/-! slices.DeleteFunc, strings.Join -/
abbrev keep (p : List UInt8 → Bool) (xs : List (List UInt8)) : List (List UInt8) := xs.filter fun x => !p x
theorem putL_pcs : ∀ (zs : List (List UInt8)) (i : Nat) (x : List UInt8), i < zs.length → putL (pcs zs) i [.string (bs x)] = pcs (zs.set i x)
  | [], i, x, h => by cases h
  | z :: r, 0, x, h => by simp [putL]
  | z :: r, i + 1, x, h => by
    have := putL_pcs r i x (by simpa using h)
    rw [List.set_cons_succ]
    show _ = Value.string (bs z) :: pcs (r.set i x)
    rw [← this]
    simp [putL, Nat.add_right_comm]
theorem clear_pcs {zs : List (List UInt8)} {i n : Nat} (h : zs.length = n) (hi : i ≤ n) : putL (pcs zs) i (repL (n - i) [.string ⟨#[]⟩]) = pcs (zs.take i ++ List.replicate (n - i) []) := by
  show _ = List.map (fun p => Value.string (bs p)) (zs.take i ++ List.replicate (n - i) [])
  rw [repL_one, List.map_append, List.map_replicate, show (Value.string (bs [])) = .string ⟨#[]⟩ from rfl]
  unfold putL
  rw [List.length_replicate, List.drop_of_length_le (by simp; omega), List.append_nil, List.map_take]
theorem take_set {zs : List (List UInt8)} {i : Nat} (x : List UInt8) (h : i < zs.length) : (zs.set i x).take (i + 1) = zs.take i ++ [x] := by
  rw [List.take_add_one, List.getElem?_set_self h, List.take_set_of_le (Nat.le_refl i)]; rfl
theorem slices_df (p : List UInt8 → Bool) (g : FuncId) (xs : List (List UInt8)) (hx : xs.length ≤ 1048577) (hp : ∀ x ∈ xs, PureF (C W0) g [.string (bs x)] (.bool (p x))) :
    CallP (C W0) I.slices_DeleteFunc_string_string [.slice (some ⟨0, 0, none⟩) xs.length xs.length, .func (.func g) #[] #[]] [.cells (pcs xs) 1 true false Y.string]
      (fun u h => RT (C W0).W0 1 [u] h [.slice (some ⟨0, 0, none⟩) (keep p xs).length xs.length] [.cells (pcs (keep p xs ++ List.replicate (xs.length - (keep p xs).length) [])) 1 true false Y.string]) (fun _ _ => False) := by
  have ixp := slices_IndexFunc (W0 := W0) p g xs hx hp
  have ix : ∀ nid, EffC (C W0) I.slices_IndexFunc_string_string [.slice (some ⟨0, 0, none⟩) xs.length xs.length, .func (.func g) #[] #[]] nid ⟨some (.int .i64 (idxF p xs)), [(0, .cells (pcs xs) 1 true false Y.string)], [], []⟩ := fun nid =>
    ixp.lend (.int _ _) [(0, .cells (pcs xs) 1 true false Y.string)] ⟨inferInstance, trivial⟩ (.cons (VTo.lend (List.mem_singleton.mpr rfl) (by simp) (by rw [List.drop_zero, List.take_of_length_le (by simp)])) (.cons (VTo.n rfl) .nil)) nid
  refine CallP.of_body (C_ok W0) B.slices_DeleteFunc_string_string rfl rfl rfl ?_
  cases hf : xs.findIdx? p with
  | none =>
    have e : idxF p xs = -1 := by unfold idxF; rw [hf]
    have hk : keep p xs = xs := List.filter_eq_self.mpr fun x hx => by simp [List.findIdx?_eq_none_iff.mp hf x hx]
    rw [e] at ix
    repeat' first
      | refine (ix _).call (by first | exact trivial | exact ⟨rfl, trivial⟩ | exact ⟨rfl, rfl, trivial⟩ | exact ⟨rfl, rfl, rfl, trivial⟩) ?_
      | (apply Here.norm; (first | dsimp only [Env.putR, argEnv, pure1, newPtr, applyE, hset, List.length_cons, List.length_nil, List.length_append, List.set, List.cons_append, List.nil_append] | rfl); (first | dsimp only [Env.putR, argEnv, pure1, newPtr, applyE, hset, List.length_cons, List.length_nil, List.length_append, List.set, List.cons_append, List.nil_append] | rfl))
      | fail
    refine RT.of_eq ?_ ?_
    · rw [hk]; rfl
    · rw [hk, Nat.sub_self, List.replicate_zero, List.append_nil]
  | some i0 =>
    obtain ⟨h1, h2, h3⟩ := List.findIdx?_eq_some_iff_getElem.mp hf
    have e : idxF p xs = (i0 : Int) := by unfold idxF; rw [hf]
    have w0 : IntKind.i64.wrap ((i0 : Int) + 1) = ((i0 + 1 : Nat) : Int) := by rw [wrap_in (by omega)]; omega
    rw [e] at ix
    repeat' first
      | refine (ix _).call (by first | exact trivial | exact ⟨rfl, trivial⟩ | exact ⟨rfl, rfl, trivial⟩ | exact ⟨rfl, rfl, rfl, trivial⟩) ?_
      | (apply Here.norm; (first | dsimp only [Env.putR, argEnv, pure1, newPtr, applyE, hset, List.length_cons, List.length_nil, List.length_append, List.set, List.cons_append, List.nil_append] | rfl); (first | dsimp only [Env.putR, argEnv, pure1, newPtr, applyE, hset, List.length_cons, List.length_nil, List.length_append, List.set, List.cons_append, List.nil_append] | rfl))
      | fail
    refine loop_I (C_ok W0) (fun q : Nat × Nat × List (List UInt8) => q.1 < q.2.1 ∧ q.2.1 ≤ xs.length ∧ q.2.2.length = xs.length ∧ q.2.2.take q.1 = keep p (xs.take q.2.1) ∧ q.2.2.drop q.2.1 = xs.drop q.2.1)
      (fun q => [(0, .slice (some ⟨0, 0, none⟩) xs.length xs.length), (1, .func (.func g) #[] #[]), (5, .int .i64 q.1), (6, .int .i64 q.2.1)]) (fun q => [.cells (pcs q.2.2) 1 true false Y.string]) (fun q => xs.length - q.2.1) (i0, i0 + 1, xs)
      ⟨by dsimp only; omega, h1, rfl, ?_, rfl⟩ ⟨_, rfl, RT.of_eq ?_ rfl⟩ ?_
    · dsimp only
      rw [List.take_add_one, List.getElem?_eq_getElem h1]
      simp only [keep, Option.toList_some, List.filter_append, List.filter_cons, h2, Bool.not_true, Bool.false_eq_true, if_false, List.filter_nil, List.append_nil]
      symm
      refine List.filter_eq_self.mpr fun x hx => ?_
      obtain ⟨j, hj, rfl⟩ := List.getElem_of_mem hx
      rw [List.length_take] at hj
      have := h3 j (by omega)
      rw [List.getElem_take]
      simpa using this
    · rw [w0]; rfl
    rintro ⟨i, j, zs⟩ ⟨g1, g2, g3, g4, g5⟩
    dsimp only at g1 g2 g3 g4 g5 ⊢
    have hil : i = (keep p (xs.take j)).length := by rw [← g4, List.length_take]; omega
    have lz : (pcs zs).length = xs.length := by simp [g3]
    by_cases hj : j < xs.length
    · have w1 : IntKind.i64.wrap ((j : Int) + 1) = ((j + 1 : Nat) : Int) := by rw [wrap_in (by omega)]; omega
      have w2 : IntKind.i64.wrap ((i : Int) + 1) = ((i + 1 : Nat) : Int) := by rw [wrap_in (by omega)]; omega
      have ez : zs[j]? = some xs[j] := by
        have : (zs.drop j)[0]? = (xs.drop j)[0]? := by rw [g5]
        rw [List.getElem?_drop, List.getElem?_drop, Nat.add_zero, List.getElem?_eq_getElem hj] at this
        exact this
      have hv : (pcs zs)[0 + ((j : Int).toNat) * 1]? = some (.string (bs xs[j])) := by
        rw [Nat.zero_add, Int.toNat_natCast, Nat.mul_one, List.getElem?_map, ez]; rfl
      have fi : 0 + ((i : Int).toNat) * 1 + 1 ≤ (pcs zs).length := by rw [lz]; omega
      have pv := hp _ (List.getElem_mem hj)
      have kt : keep p (xs.take (j + 1)) = keep p (xs.take j) ++ (if p xs[j] = true then [] else [xs[j]]) := by
        rw [List.take_add_one, List.getElem?_eq_getElem hj]
        simp only [keep, Option.toList_some, List.filter_append, List.filter_cons, List.filter_nil]
        cases p xs[j] <;> rfl
      have d1 : zs.drop (j + 1) = xs.drop (j + 1) := by
        have := congrArg (List.drop 1) g5
        rwa [List.drop_drop, List.drop_drop] at this
      cases hb : p xs[j] with
      | true =>
        rw [hb] at pv kt
        repeat' first
          | refine brP.tD (by omega) ?_
          | refine ⟨_, _, _, _, _, rfl, _, hv, ?_⟩
          | refine (pv).call ?_
          | (apply Here.norm; (first | dsimp only [Env.putR, argEnv, pure1, newPtr, applyE, hset, List.length_cons, List.length_nil, List.length_append, List.set, List.cons_append, List.nil_append] | rfl); (first | dsimp only [Env.putR, argEnv, pure1, newPtr, applyE, hset, List.length_cons, List.length_nil, List.length_append, List.set, List.cons_append, List.nil_append] | rfl))
          | refine ⟨InB.mk (by first | decide | omega) (by first | decide | omega), ?_⟩
          | fail
        apply Again.mk (i, j + 1, zs)
        · exact ⟨by dsimp only; omega, hj, g3, by dsimp only; rw [kt, g4]; simp, d1⟩
        · dsimp only; omega
        refine ⟨_, rfl, RT.of_eq ?_ rfl⟩
        rw [w1]; rfl
      | false =>
        rw [hb] at pv kt
        have sp : putL (pcs zs) (0 + ((i : Int).toNat) * 1) [.string (bs xs[j])] = pcs (zs.set i xs[j]) := by
          rw [show 0 + ((i : Int).toNat) * 1 = i by omega]; exact putL_pcs zs i xs[j] (by omega)
        repeat' first
          | refine brP.tD (by omega) ?_
          | refine ⟨_, _, _, _, _, rfl, _, hv, ?_⟩
          | refine (pv).call ?_
          | refine ⟨_, _, _, _, _, rfl, rfl, rfl, Fits.mk fi, rfl, ?_⟩
          | (apply Here.norm; (first | dsimp only [Env.putR, argEnv, pure1, newPtr, applyE, hset, List.length_cons, List.length_nil, List.length_append, List.set, List.cons_append, List.nil_append] | rfl); (first | dsimp only [Env.putR, argEnv, pure1, newPtr, applyE, hset, List.length_cons, List.length_nil, List.length_append, List.set, List.cons_append, List.nil_append] | rfl))
          | refine ⟨InB.mk (by first | decide | omega) (by first | decide | omega), ?_⟩
          | fail
        apply Again.mk (i + 1, j + 1, zs.set i xs[j])
        · refine ⟨by dsimp only; omega, hj, by dsimp only; rw [List.length_set]; exact g3, ?_, ?_⟩
          · dsimp only
            rw [take_set _ (by omega), g4, kt]; simp
          · dsimp only
            rw [List.drop_set_of_lt (by omega), d1]
        · dsimp only; omega
        refine ⟨_, rfl, RT.of_eq ?_ ?_⟩
        · rw [w1, w2]; rfl
        · rw [← sp]; rfl
    · have hjl : j = xs.length := by omega
      have e2 : keep p (xs.take j) = keep p xs := by rw [List.take_of_length_le (by omega)]
      have cl : putL (pcs zs) (0 + (i : Int).toNat * 1) (repL ((xs.length : Int).toNat - (i : Int).toNat) [.string ⟨#[]⟩]) = pcs (keep p xs ++ List.replicate (xs.length - i) []) := by
        rw [show 0 + (i : Int).toNat * 1 = i by omega]
        have cl := clear_pcs (zs := zs) (i := i) g3 (by omega)
        rw [g4, e2] at cl
        exact cl
      rw [e2] at hil
      have h0 : 0 < (xs.length : Int).toNat - (i : Int).toNat := by omega
      have hle : 0 + (i : Int).toNat * 1 + ((xs.length : Int).toNat - (i : Int).toNat) * 1 ≤ (pcs zs).length := by rw [lz]; omega
      repeat' first
        | refine brP.fD (by omega) ?_
        | refine .inr ⟨h0, _, _, _, _, _, rfl, rfl, rfl, hle, ?_⟩
        | refine ⟨_, _, _, _, _, rfl, rfl, ?_⟩
        | (apply Here.norm; (first | dsimp only [Env.putR, argEnv, pure1, newPtr, applyE, hset, List.length_cons, List.length_nil, List.length_append, List.set, List.cons_append, List.nil_append] | rfl); (first | dsimp only [Env.putR, argEnv, pure1, newPtr, applyE, hset, List.length_cons, List.length_nil, List.length_append, List.set, List.cons_append, List.nil_append] | rfl))
        | refine ⟨SlB.mk (by first | omega | decide) (by first | omega | decide) (by first | omega | decide), ?_⟩
        | fail
      refine RT.of_eq ?_ ?_
      · rw [← hil]; rfl
      · rw [← hil, ← cl]
theorem slices_DeleteFunc (p : List UInt8 → Bool) (g : FuncId) (xs : List (List UInt8)) (hx : xs.length ≤ 1048577) (hp : ∀ x ∈ xs, PureF (C W0) g [.string (bs x)] (.bool (p x))) (b nid : Nat) :
    EffC (C W0) I.slices_DeleteFunc_string_string [.slice (some ⟨b, 0, none⟩) xs.length xs.length, .func (.func g) #[] #[]] nid
      ⟨some (.slice (some ⟨b, 0, none⟩) (keep p xs).length xs.length), [(b, .cells (pcs xs) 1 true false Y.string)], [(b, .cells (pcs (keep p xs ++ List.replicate (xs.length - (keep p xs).length) [])) 1 true false Y.string)], []⟩ :=
  EffC.of [⟨b, true, .cells (pcs xs) 1 true false Y.string, .cells (pcs xs) 1 true false Y.string, .cells (pcs (keep p xs ++ List.replicate (xs.length - (keep p xs).length) [])) 1 true false Y.string⟩]
    (slices_df p g xs hx hp) ⟨fun _ h => (by cases h), trivial⟩ ⟨BView.own rfl (by simp) (BTo.nf fun v h => (pcs_af _ v h).nf), trivial⟩
    (.cons (VTo.slice (by simp [fwd])) (.cons (VTo.n rfl) .nil))
    ⟨fun _ => ⟨BTo.nf fun v h => (pcs_af _ v h).nf, by simp⟩, trivial⟩ trivial (VTo.slice (by simp [bwd, bwdN]))
theorem un_bs : ∀ xs : List (List UInt8), (xs.map bs).map (·.data.toList) = xs
  | [] => rfl
  | x :: r => by rw [List.map_cons, List.map_cons, un_bs r]; simp [bs]
/-- Texts joined. -/
def joinL (sep : List UInt8) (xs : List (List UInt8)) : List UInt8 := Lib.join xs sep
theorem strings_Join (xs : List (List UInt8)) (b : UInt8) (hx : xs.length ≤ 140737488355328) (hl : (joinL [b] xs).length ≤ 140737488355328) : PureF (C W0) I.strings_Join [LV (pcs xs) (pcs xs).length, .string ⟨#[b]⟩] (.string (bs (joinL [b] xs))) := by
  have em := un_bs xs
  refine PureF.of_row (pcs_af _) (fun a h => by rcases List.mem_singleton.mp h with rfl; exact .string _) (.string _) ⟨_, B.strings_Join, rfl, rfl⟩ ?_ ?_
  · intro e w q k hb
    have h := Tryd.strings_Join_none q k ⟨#[b]⟩ w
    have ex : xs = [] := by simpa using e
    subst ex
    exact h.mono fun e w' ⟨h1, h2⟩ => ⟨h1, h2 ▸ Below.refl _ _⟩
  · intro w blk o k hb hlt hk hc
    have h := Tryd.strings_Join blk o k (xs.map bs) ⟨#[b]⟩ w (fun j x hj => hc j (.string x) (by
      rw [List.getElem?_map] at hj ⊢
      cases hq : xs[j]? with
      | none => rw [hq] at hj; cases hj
      | some y => rw [hq] at hj; cases hj; rfl)) hlt (by simpa using hx) (by simpa using hk) (by rw [em]; exact hl)
    rw [em] at h
    simp only [List.length_map] at h ⊢
    exact h
theorem join_cons2 (b : UInt8) (x y : List UInt8) (r : List (List UInt8)) : joinL [b] (x :: y :: r) = x ++ b :: joinL [b] (y :: r) := by
  simp [joinL, Lib.join, List.intercalate, List.intersperse]
theorem join_len (b : UInt8) : ∀ xs : List (List UInt8), (joinL [b] xs).length ≤ (xs.map fun x => x.length + 1).sum
  | [] => by simp [joinL, Lib.join, List.intercalate]
  | [x] => by simp [joinL, Lib.join, List.intercalate]
  | x :: y :: r => by
    have := join_len b (y :: r)
    rw [join_cons2]
    simp only [List.length_append, List.length_cons, List.map_cons, List.sum_cons] at this ⊢
    omega
theorem keep_sum (p : List UInt8 → Bool) : ∀ xs : List (List UInt8), ((keep p xs).map fun x => x.length + 1).sum ≤ (xs.map fun x => x.length + 1).sum
  | [] => by simp
  | x :: r => by
    have := keep_sum p r
    simp only [keep, List.filter_cons] at this ⊢
    split
    · simp only [List.map_cons, List.sum_cons]; omega
    · simp only [List.map_cons, List.sum_cons]; omega
theorem cut_sum (b : UInt8) (t : List UInt8) : ∀ acc, ((cutA b acc t).map fun x => x.length + 1).sum = acc.length + t.length + 1 := by
  induction t with
  | nil => intro acc; simp [cutA]
  | cons c t ih =>
    intro acc
    unfold cutA
    split
    · simp [ih]; omega
    · rw [ih]; simp; omega
end Go.Proofs.YtioahngbfdfcaaaDoor
