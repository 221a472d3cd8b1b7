import Derived.Test.YtkocmbgpiidkdaaGreatDoorKGf
set_option linter.unusedVariables false
set_option linter.unusedSimpArgs false
namespace Go.Proofs.YtkocmbgpiidkdaaGreatDoor
open Go Go.Den Go.RowKit
variable {W0 : World}
/-! flush: two records sorted, a second record, the table of ways -/
set_option maxRecDepth 20000 in
set_option maxHeartbeats 8000000 in
theorem sort_call (p q : ByteArray) (a b t : Int) (hc : Extern.BytealgCompare.cmp q p = -1) :
    CallP (C W0) I.slices_SortFunc_api_Record_api_Record [.slice (some ⟨0, 0, none⟩) 2 2, .func (.func I.flush_Records_1) #[] #[]] [.cells (recL p a t ++ recL q b t) 4 true true Y.api_Record]
      (fun u h => RT (C W0).W0 1 [u] h [.tuple #[]] [.cells (recL q b t ++ recL p a t) 4 true true Y.api_Record]) (fun _ _ => False) := by
  have cm := flush_cmp (W0 := W0) q p (b / 18446744073709551616) (b % 18446744073709551616) t (a / 18446744073709551616) (a % 18446744073709551616) t
  rw [hc] at cm
  refine CallP.of_body (C_ok W0) B.slices_SortFunc_api_Record_api_Record rfl rfl rfl ?_
  repeat' first
    | refine loop_N (C_ok W0) 4 ?_
    | refine rounds_s ?_
    | refine .inl ⟨_, cm, ?_⟩
    | refine (CallP.of_body (C_ok W0) B.slices_pdqsortCmpFunc_api_Record rfl rfl rfl ?_)
    | refine (CallP.of_body (C_ok W0) B.slices_insertionSortCmpFunc_api_Record rfl rfl rfl ?_)
    | refine (CallP.of_body (C_ok W0) B.math_bits_Len rfl rfl rfl ?_)
    | refine (CallP.of_body (C_ok W0) B.math_bits_Len64 rfl rfl rfl ?_)
    | (apply Here.norm; (first | dsimp only [Env.putR, argEnv, pure1, newPtr, applyE, hset, List.length_cons, List.length_nil, List.length_append, List.set, List.cons_append, List.nil_append] | rfl); (first | dsimp only [Env.putR, argEnv, pure1, newPtr, applyE, hset, List.length_cons, List.length_nil, List.length_append, List.set, List.cons_append, List.nil_append] | rfl))
    | refine ⟨_, _, _, _, _, rfl, rfl, rfl, Fits.mk (by first | exact Nat.le_of_ble_eq_true rfl | (dsimp only; omega)), rfl, ?_⟩
    | refine ⟨_, _, _, _, _, rfl, Fits.mk (by first | exact Nat.le_of_ble_eq_true rfl | (dsimp only; omega)), _, rfl, ?_⟩
    | refine draw_go (C_ok W0) (by kernel_rfl) ?_
    | refine ⟨cpt_ok (by kernel_rfl), ?_⟩
    | refine ⟨InB.mk (by first | decide | omega) (by first | decide | omega), ?_⟩
    | fail
  exact RT.of_eq rfl rfl
theorem sort_eff (p q : ByteArray) (a b t : Int) (hc : Extern.BytealgCompare.cmp q p = -1) (k nid : Nat) :
    EffC (C W0) I.slices_SortFunc_api_Record_api_Record [.slice (some ⟨k, 0, none⟩) 2 2, .func (.func I.flush_Records_1) #[] #[]] nid
      ⟨some (.tuple #[]), [(k, .cells (recL p a t ++ recL q b t) 4 true true Y.api_Record)], [(k, .cells (recL q b t ++ recL p a t) 4 true true Y.api_Record)], []⟩ :=
  EffC.of [⟨k, true, .cells (recL p a t ++ recL q b t) 4 true true Y.api_Record, .cells (recL p a t ++ recL q b t) 4 true true Y.api_Record, .cells (recL q b t ++ recL p a t) 4 true true Y.api_Record⟩]
    (sort_call p q a b t hc) ⟨fun _ h => (by cases h), trivial⟩
    ⟨BView.own rfl (by simp) (BTo.cells (fun z => z) (LTo.n rfl)), trivial⟩
    (.cons (VTo.slice (by simp [fwd])) (.cons (VTo.n rfl) .nil))
    ⟨fun _ => ⟨BTo.cells (fun z => z) (LTo.n rfl), by simp⟩, trivial⟩ trivial (VTo.n rfl)
set_option maxRecDepth 20000 in
set_option maxHeartbeats 8000000 in
theorem put2_call (w t v m : Int) (pfx path p1 : ByteArray) (hp : ¬ pfx = ⟨#[]⟩) (hs1 : pfx.size ≤ 1000) (hs2 : path.size ≤ 1000) (nv : PureF (C W0) I.name_Valid [.string (pfx ++ ⟨#[46]⟩ ++ path)] (.bool true)) :
    CallP (C W0) I.flush_book_put [.pointer (some ⟨0, 0, none⟩), .string path, wv v] [bookB w pfx t (.slice (some ⟨1, 0, none⟩) 1 1), .cells (recL p1 m t) 4 true true Y.api_Record]
      (fun u h => RT (C W0).W0 2 [u] h [.tuple #[]] [bookB w pfx t (.slice (some ⟨2, 0, none⟩) 2 2), .dead, .cells (recL p1 m t ++ recL (pfx ++ ⟨#[46]⟩ ++ path) v t) 4 true true Y.api_Record]) (fun _ _ => False) := by
  have z0 : (⟨#[46]⟩ : ByteArray).size = 1 := rfl
  have z1 : (pfx ++ ⟨#[46]⟩).size = pfx.size + 1 := by rw [ByteArray.size_append, z0]
  have z2 : (pfx ++ ⟨#[46]⟩ ++ path).size = pfx.size + 1 + path.size := by rw [ByteArray.size_append, z1]
  refine CallP.of_body (C_ok W0) B.flush_book_put rfl rfl rfl ?_
  repeat' first
    | refine brP.tN (by omega) ?_
    | refine .inr ⟨by decide, _, _, _, _, _, rfl, rfl, Room.mk (by decide) (by decide), .inr (.inr ⟨by decide, rfl, rfl, rfl, rfl, by decide, rfl, ?_⟩)⟩
    | refine (nv).call ?_
    | refine ⟨(show (_ : Nat) + _ ≤ 9223372036854775807 by omega), ?_⟩
    | (apply Here.norm; (first | dsimp only [Env.putR, argEnv, pure1, newPtr, applyE, hset, List.length_cons, List.length_nil, List.length_append, List.set, List.cons_append, List.nil_append] | rfl); (first | dsimp only [Env.putR, argEnv, pure1, newPtr, applyE, hset, List.length_cons, List.length_nil, List.length_append, List.set, List.cons_append, List.nil_append] | rfl))
    | refine ⟨_, _, _, _, _, rfl, rfl, rfl, Fits.mk (by first | exact Nat.le_of_ble_eq_true rfl | (dsimp only; omega)), rfl, ?_⟩
    | refine ⟨_, _, _, _, _, rfl, _, rfl, ?_⟩
    | refine ⟨_, _, _, _, _, rfl, Fits.mk (by first | exact Nat.le_of_ble_eq_true rfl | (dsimp only; omega)), _, rfl, ?_⟩
    | refine draw_go (C_ok W0) (by kernel_rfl) ?_
    | refine ⟨cpt_ok (by kernel_rfl), ?_⟩
    | refine ⟨trivial, ?_⟩
    | refine ⟨by decide, rfl, by decide, ?_⟩
    | refine .inr ⟨by decide, _, _, _, _, _, rfl, rfl, Fits.mk (by first | exact Nat.le_of_ble_eq_true rfl | omega), ?_⟩
    | refine ⟨by decide, ?_⟩
    | fail
  refine RT.ren [0, 1, 4] rfl rfl ?_ ?_
  all_goals (repeat' first
    | exact trivial
    | exact LTo.nil
    | refine ⟨⟨_, rfl, ?_, (fun z => by cases z)⟩, ?_⟩
    | refine BTo.cells (fun z => z) ?_
    | refine LTo.cons ?_ ?_
    | refine VTo.int ?_
    | refine VTo.bool ?_
    | refine VTo.string ?_
    | refine VTo.tuple ?_
    | (with_reducible rfl)
    | exact VTo.n rfl
    | fail)
  all_goals first
    | rfl
    | (show VTo _ (Value.slice (some ⟨4, 0, none⟩) 2 2) _; exact VTo.slice (by decide))
    | exact LTo.n rfl
theorem put2_eff (w t v m : Int) (pfx path p1 : ByteArray) (hp : ¬ pfx = ⟨#[]⟩) (hs1 : pfx.size ≤ 1000) (hs2 : path.size ≤ 1000) (nv : PureF (C W0) I.name_Valid [.string (pfx ++ ⟨#[46]⟩ ++ path)] (.bool true)) (b j nid : Nat) (hbj : b ≠ j) :
    EffC (C W0) I.flush_book_put [.pointer (some ⟨b, 0, none⟩), .string path, wv v] nid ⟨some (.tuple #[]), [(b, bookB w pfx t (.slice (some ⟨j, 0, none⟩) 1 1)), (j, .cells (recL p1 m t) 4 true true Y.api_Record)],
      [(b, bookB w pfx t (.slice (some ⟨nid, 0, none⟩) 2 2)), (j, .dead)], [.cells (recL p1 m t ++ recL (pfx ++ ⟨#[46]⟩ ++ path) v t) 4 true true Y.api_Record]⟩ :=
  EffC.of [⟨b, true, bookB w pfx t (.slice (some ⟨j, 0, none⟩) 1 1), bookB w pfx t (.slice (some ⟨1, 0, none⟩) 1 1), bookB w pfx t (.slice (some ⟨nid, 0, none⟩) 2 2)⟩, ⟨j, true, .cells (recL p1 m t) 4 true true Y.api_Record, .cells (recL p1 m t) 4 true true Y.api_Record, .dead⟩]
    (put2_call w t v m pfx path p1 hp hs1 hs2 nv)
    ⟨fun x h => by rcases List.mem_singleton.mp h with rfl; exact fun _ => hbj, fun _ h => (by cases h), trivial⟩
    ⟨BView.own rfl (by simp) (BTo.cells (fun z => z) (.cons (VTo.n rfl) (.cons (VTo.n rfl) (.cons (VTo.n rfl) (.cons (VTo.n rfl) (.cons (VTo.n rfl) (.cons (VTo.n rfl) (.cons (VTo.slice (by simp [fwd])) .nil)))))))), BView.own rfl (by simp) (BTo.cells (fun z => z) (LTo.n rfl)), trivial⟩
    (.cons (VTo.ptr (by simp [fwd])) (.cons (VTo.n rfl) (.cons (VTo.n rfl) .nil)))
    ⟨fun _ => ⟨BTo.cells (fun z => z) (.cons (VTo.n rfl) (.cons (VTo.n rfl) (.cons (VTo.n rfl) (.cons (VTo.n rfl) (.cons (VTo.n rfl) (.cons (VTo.n rfl) (.cons (VTo.slice (by simp [bwd, bwdN])) .nil))))))), by simp⟩, fun _ => ⟨trivial, by simp⟩, trivial⟩
    ⟨⟨BTo.cells (fun z => z) (LTo.n rfl), rfl, by simp⟩, trivial⟩ (VTo.n rfl)
end Go.Proofs.YtkocmbgpiidkdaaGreatDoor
