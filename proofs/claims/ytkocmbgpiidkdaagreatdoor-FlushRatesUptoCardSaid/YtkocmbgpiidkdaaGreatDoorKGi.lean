import Derived.Test.YtkocmbgpiidkdaaGreatDoorKGf
set_option linter.unusedVariables false
set_option linter.unusedSimpArgs false
namespace Go.Proofs.YtkocmbgpiidkdaaGreatDoor
open Go Go.Den Go.RowKit
variable {W0 : World}
/-! flush, without a prefix: put, a second put, rows in order, find -/
theorem pot_call (w t v : Int) (path : ByteArray) (nv : PureF (C W0) I.name_Valid [.string path] (.bool true)) :
    CallP (C W0) I.flush_book_put [.pointer (some ⟨0, 0, none⟩), .string path, wv v] [bookB w ⟨#[]⟩ t (.slice none 0 0)]
      (fun u h => RT (C W0).W0 1 [u] h [.tuple #[]] [bookB w ⟨#[]⟩ t (.slice (some ⟨1, 0, none⟩) 1 1), .cells (recL path v t) 4 true true Y.api_Record]) (fun _ _ => False) := by
  refine CallP.of_body (C_ok W0) B.flush_book_put rfl rfl rfl ?_
  repeat' first
    | refine (nv).call ?_
    | (apply Here.norm; (first | dsimp only [Env.putR, argEnv, pure1, newPtr, applyE, hset, List.length_cons, List.length_nil, List.length_append, List.set, List.cons_append, List.nil_append] | rfl); (first | dsimp only [Env.putR, argEnv, pure1, newPtr, applyE, hset, List.length_cons, List.length_nil, List.length_append, List.set, List.cons_append, List.nil_append] | rfl))
    | refine ⟨_, _, _, _, _, rfl, rfl, rfl, Fits.mk (by first | exact Nat.le_of_ble_eq_true rfl | (dsimp only; omega)), rfl, ?_⟩
    | refine ⟨_, _, _, _, _, rfl, _, rfl, ?_⟩
    | refine ⟨_, _, _, _, _, rfl, Fits.mk (by first | exact Nat.le_of_ble_eq_true rfl | (dsimp only; omega)), _, rfl, ?_⟩
    | refine draw_go (C_ok W0) (by kernel_rfl) ?_
    | refine ⟨cpt_ok (by kernel_rfl), ?_⟩
    | refine ⟨trivial, ?_⟩
    | refine ⟨by decide, rfl, by decide, ?_⟩
    | refine .inr ⟨by decide, _, _, _, _, _, rfl, rfl, Fits.mk (by first | exact Nat.le_of_ble_eq_true rfl | omega), ?_⟩
    | refine .inr ⟨by decide, by decide, Room.mk (by decide) (by decide), ?_⟩
    | refine ⟨by decide, ?_⟩
    | fail
  refine RT.ren [0, 3] rfl rfl ?_ ?_
  all_goals (repeat' first
    | exact trivial
    | exact LTo.nil
    | refine ⟨⟨_, rfl, ?_, (fun z => by cases z)⟩, ?_⟩
    | refine BTo.cells (fun z => z) ?_
    | refine LTo.cons ?_ ?_
    | refine VTo.int ?_
    | refine VTo.bool ?_
    | refine VTo.string ?_
    | refine VTo.tuple ?_
    | (with_reducible rfl)
    | exact VTo.n rfl
    | fail)
  all_goals first
    | rfl
    | (show VTo _ (Value.slice (some ⟨3, 0, none⟩) 1 1) _; exact VTo.slice (by decide))
    | exact LTo.n rfl
theorem pot_eff (w t v : Int) (path : ByteArray) (nv : PureF (C W0) I.name_Valid [.string path] (.bool true)) (b nid : Nat) :
    EffC (C W0) I.flush_book_put [.pointer (some ⟨b, 0, none⟩), .string path, wv v] nid ⟨some (.tuple #[]), [(b, bookB w ⟨#[]⟩ t (.slice none 0 0))], [(b, bookB w ⟨#[]⟩ t (.slice (some ⟨nid, 0, none⟩) 1 1))], [.cells (recL path v t) 4 true true Y.api_Record]⟩ :=
  EffC.of [⟨b, true, bookB w ⟨#[]⟩ t (.slice none 0 0), bookB w ⟨#[]⟩ t (.slice none 0 0), bookB w ⟨#[]⟩ t (.slice (some ⟨nid, 0, none⟩) 1 1)⟩]
    (pot_call w t v path nv) ⟨fun _ h => (by cases h), trivial⟩
    ⟨BView.own rfl (by simp) (BTo.cells (fun z => z) (LTo.n rfl)), trivial⟩
    (.cons (VTo.ptr (by simp [fwd])) (.cons (VTo.n rfl) (.cons (VTo.n rfl) .nil)))
    ⟨fun _ => ⟨BTo.cells (fun z => z) (.cons (VTo.n rfl) (.cons (VTo.n rfl) (.cons (VTo.n rfl) (.cons (VTo.n rfl) (.cons (VTo.n rfl) (.cons (VTo.n rfl) (.cons (VTo.slice (by simp [bwd, bwdN])) .nil))))))), by simp⟩, trivial⟩
    ⟨⟨BTo.cells (fun z => z) (LTo.n rfl), rfl, by simp⟩, trivial⟩ (VTo.n rfl)
set_option maxRecDepth 20000 in
set_option maxHeartbeats 8000000 in
theorem pot2_call (w t v m : Int) (path p1 : ByteArray) (nv : PureF (C W0) I.name_Valid [.string path] (.bool true)) :
    CallP (C W0) I.flush_book_put [.pointer (some ⟨0, 0, none⟩), .string path, wv v] [bookB w ⟨#[]⟩ t (.slice (some ⟨1, 0, none⟩) 1 1), .cells (recL p1 m t) 4 true true Y.api_Record]
      (fun u h => RT (C W0).W0 2 [u] h [.tuple #[]] [bookB w ⟨#[]⟩ t (.slice (some ⟨2, 0, none⟩) 2 2), .dead, .cells (recL p1 m t ++ recL path v t) 4 true true Y.api_Record]) (fun _ _ => False) := by
  refine CallP.of_body (C_ok W0) B.flush_book_put rfl rfl rfl ?_
  repeat' first
    | refine .inr ⟨by decide, _, _, _, _, _, rfl, rfl, Room.mk (by decide) (by decide), .inr (.inr ⟨by decide, rfl, rfl, rfl, rfl, by decide, rfl, ?_⟩)⟩
    | refine (nv).call ?_
    | (apply Here.norm; (first | dsimp only [Env.putR, argEnv, pure1, newPtr, applyE, hset, List.length_cons, List.length_nil, List.length_append, List.set, List.cons_append, List.nil_append] | rfl); (first | dsimp only [Env.putR, argEnv, pure1, newPtr, applyE, hset, List.length_cons, List.length_nil, List.length_append, List.set, List.cons_append, List.nil_append] | rfl))
    | refine ⟨_, _, _, _, _, rfl, rfl, rfl, Fits.mk (by first | exact Nat.le_of_ble_eq_true rfl | (dsimp only; omega)), rfl, ?_⟩
    | refine ⟨_, _, _, _, _, rfl, _, rfl, ?_⟩
    | refine ⟨_, _, _, _, _, rfl, Fits.mk (by first | exact Nat.le_of_ble_eq_true rfl | (dsimp only; omega)), _, rfl, ?_⟩
    | refine draw_go (C_ok W0) (by kernel_rfl) ?_
    | refine ⟨cpt_ok (by kernel_rfl), ?_⟩
    | refine ⟨trivial, ?_⟩
    | refine ⟨by decide, rfl, by decide, ?_⟩
    | refine .inr ⟨by decide, _, _, _, _, _, rfl, rfl, Fits.mk (by first | exact Nat.le_of_ble_eq_true rfl | omega), ?_⟩
    | refine ⟨by decide, ?_⟩
    | fail
  refine RT.ren [0, 1, 4] rfl rfl ?_ ?_
  all_goals (repeat' first
    | exact trivial
    | exact LTo.nil
    | refine ⟨⟨_, rfl, ?_, (fun z => by cases z)⟩, ?_⟩
    | refine BTo.cells (fun z => z) ?_
    | refine LTo.cons ?_ ?_
    | refine VTo.int ?_
    | refine VTo.bool ?_
    | refine VTo.string ?_
    | refine VTo.tuple ?_
    | (with_reducible rfl)
    | exact VTo.n rfl
    | fail)
  all_goals first
    | rfl
    | (show VTo _ (Value.slice (some ⟨4, 0, none⟩) 2 2) _; exact VTo.slice (by decide))
    | exact LTo.n rfl
theorem pot2_eff (w t v m : Int) (path p1 : ByteArray) (nv : PureF (C W0) I.name_Valid [.string path] (.bool true)) (b j nid : Nat) (hbj : b ≠ j) :
    EffC (C W0) I.flush_book_put [.pointer (some ⟨b, 0, none⟩), .string path, wv v] nid ⟨some (.tuple #[]), [(b, bookB w ⟨#[]⟩ t (.slice (some ⟨j, 0, none⟩) 1 1)), (j, .cells (recL p1 m t) 4 true true Y.api_Record)],
      [(b, bookB w ⟨#[]⟩ t (.slice (some ⟨nid, 0, none⟩) 2 2)), (j, .dead)], [.cells (recL p1 m t ++ recL path v t) 4 true true Y.api_Record]⟩ :=
  EffC.of [⟨b, true, bookB w ⟨#[]⟩ t (.slice (some ⟨j, 0, none⟩) 1 1), bookB w ⟨#[]⟩ t (.slice (some ⟨1, 0, none⟩) 1 1), bookB w ⟨#[]⟩ t (.slice (some ⟨nid, 0, none⟩) 2 2)⟩, ⟨j, true, .cells (recL p1 m t) 4 true true Y.api_Record, .cells (recL p1 m t) 4 true true Y.api_Record, .dead⟩]
    (pot2_call w t v m path p1 nv)
    ⟨fun x h => by rcases List.mem_singleton.mp h with rfl; exact fun _ => hbj, fun _ h => (by cases h), trivial⟩
    ⟨BView.own rfl (by simp) (BTo.cells (fun z => z) (.cons (VTo.n rfl) (.cons (VTo.n rfl) (.cons (VTo.n rfl) (.cons (VTo.n rfl) (.cons (VTo.n rfl) (.cons (VTo.n rfl) (.cons (VTo.slice (by simp [fwd])) .nil)))))))), BView.own rfl (by simp) (BTo.cells (fun z => z) (LTo.n rfl)), trivial⟩
    (.cons (VTo.ptr (by simp [fwd])) (.cons (VTo.n rfl) (.cons (VTo.n rfl) .nil)))
    ⟨fun _ => ⟨BTo.cells (fun z => z) (.cons (VTo.n rfl) (.cons (VTo.n rfl) (.cons (VTo.n rfl) (.cons (VTo.n rfl) (.cons (VTo.n rfl) (.cons (VTo.n rfl) (.cons (VTo.slice (by simp [bwd, bwdN])) .nil))))))), by simp⟩, fun _ => ⟨trivial, by simp⟩, trivial⟩
    ⟨⟨BTo.cells (fun z => z) (LTo.n rfl), rfl, by simp⟩, trivial⟩ (VTo.n rfl)
set_option maxRecDepth 20000 in
set_option maxHeartbeats 8000000 in
theorem sark_call (p q : ByteArray) (a b t : Int) (hc : Extern.BytealgCompare.cmp q p = 1) :
    CallP (C W0) I.slices_SortFunc_api_Record_api_Record [.slice (some ⟨0, 0, none⟩) 2 2, .func (.func I.flush_Records_1) #[] #[]] [.cells (recL p a t ++ recL q b t) 4 true true Y.api_Record]
      (fun u h => RT (C W0).W0 1 [u] h [.tuple #[]] [.cells (recL p a t ++ recL q b t) 4 true true Y.api_Record]) (fun _ _ => False) := by
  have cm := flush_cmp (W0 := W0) q p (b / 18446744073709551616) (b % 18446744073709551616) t (a / 18446744073709551616) (a % 18446744073709551616) t
  rw [hc] at cm
  refine CallP.of_body (C_ok W0) B.slices_SortFunc_api_Record_api_Record rfl rfl rfl ?_
  repeat' first
    | refine loop_N (C_ok W0) 4 ?_
    | refine rounds_s ?_
    | refine .inl ⟨_, cm, ?_⟩
    | refine (CallP.of_body (C_ok W0) B.slices_pdqsortCmpFunc_api_Record rfl rfl rfl ?_)
    | refine (CallP.of_body (C_ok W0) B.slices_insertionSortCmpFunc_api_Record rfl rfl rfl ?_)
    | refine (CallP.of_body (C_ok W0) B.math_bits_Len rfl rfl rfl ?_)
    | refine (CallP.of_body (C_ok W0) B.math_bits_Len64 rfl rfl rfl ?_)
    | (apply Here.norm; (first | dsimp only [Env.putR, argEnv, pure1, newPtr, applyE, hset, List.length_cons, List.length_nil, List.length_append, List.set, List.cons_append, List.nil_append] | rfl); (first | dsimp only [Env.putR, argEnv, pure1, newPtr, applyE, hset, List.length_cons, List.length_nil, List.length_append, List.set, List.cons_append, List.nil_append] | rfl))
    | refine ⟨_, _, _, _, _, rfl, Fits.mk (by first | exact Nat.le_of_ble_eq_true rfl | (dsimp only; omega)), _, rfl, ?_⟩
    | refine draw_go (C_ok W0) (by kernel_rfl) ?_
    | refine ⟨cpt_ok (by kernel_rfl), ?_⟩
    | refine ⟨InB.mk (by first | decide | omega) (by first | decide | omega), ?_⟩
    | fail
  exact RT.of_eq rfl rfl
theorem sark_eff (p q : ByteArray) (a b t : Int) (hc : Extern.BytealgCompare.cmp q p = 1) (k nid : Nat) :
    EffC (C W0) I.slices_SortFunc_api_Record_api_Record [.slice (some ⟨k, 0, none⟩) 2 2, .func (.func I.flush_Records_1) #[] #[]] nid
      ⟨some (.tuple #[]), [(k, .cells (recL p a t ++ recL q b t) 4 true true Y.api_Record)], [(k, .cells (recL p a t ++ recL q b t) 4 true true Y.api_Record)], []⟩ :=
  EffC.of [⟨k, true, .cells (recL p a t ++ recL q b t) 4 true true Y.api_Record, .cells (recL p a t ++ recL q b t) 4 true true Y.api_Record, .cells (recL p a t ++ recL q b t) 4 true true Y.api_Record⟩]
    (sark_call p q a b t hc) ⟨fun _ h => (by cases h), trivial⟩
    ⟨BView.own rfl (by simp) (BTo.cells (fun z => z) (LTo.n rfl)), trivial⟩
    (.cons (VTo.slice (by simp [fwd])) (.cons (VTo.n rfl) .nil))
    ⟨fun _ => ⟨BTo.cells (fun z => z) (LTo.n rfl), by simp⟩, trivial⟩ trivial (VTo.n rfl)
theorem find_1 (p q : ByteArray) (a b t : Int) : PureF (C W0) I.tumblerlaw10_find [LV (recL p a t ++ recL q b t) 2, .string p] (.tuple #[wv a, .bool true]) := by
  have e : p = p := rfl
  refine PureF.E (CallP.of_body (C_ok W0) B.tumblerlaw10_find rfl rfl rfl ?_)
  repeat' first
    | refine brP.tD e ?_
    | refine loop_N (C_ok W0) 4 ?_
    | refine rounds_s ?_
    | (apply Here.norm; (first | dsimp only [Env.putR, argEnv, pure1, newPtr, applyE, hset, List.length_cons, List.length_nil, List.length_append, List.set, List.cons_append, List.nil_append] | rfl); (first | dsimp only [Env.putR, argEnv, pure1, newPtr, applyE, hset, List.length_cons, List.length_nil, List.length_append, List.set, List.cons_append, List.nil_append] | rfl))
    | refine ⟨_, _, _, _, _, rfl, rfl, rfl, Fits.mk (by first | exact Nat.le_of_ble_eq_true rfl | (dsimp only; omega)), rfl, ?_⟩
    | refine ⟨_, _, _, _, _, rfl, _, rfl, ?_⟩
    | refine ⟨_, _, _, _, _, rfl, Fits.mk (by first | exact Nat.le_of_ble_eq_true rfl | (dsimp only; omega)), _, rfl, ?_⟩
    | refine ⟨Fits.mk (by first | exact Nat.le_of_ble_eq_true rfl | (dsimp only; omega)), _, rfl, ?_⟩
    | refine ⟨InB.mk (by first | decide | omega) (by first | decide | omega), ?_⟩
    | refine ⟨by decide, ?_⟩
    | fail
  rfl
theorem find_2 (p q : ByteArray) (a b t : Int) (hn : ¬ p = q) : PureF (C W0) I.tumblerlaw10_find [LV (recL p a t ++ recL q b t) 2, .string q] (.tuple #[wv b, .bool true]) := by
  have e : q = q := rfl
  refine PureF.E (CallP.of_body (C_ok W0) B.tumblerlaw10_find rfl rfl rfl ?_)
  repeat' first
    | refine brP.fD hn ?_
    | refine brP.tD e ?_
    | refine loop_N (C_ok W0) 4 ?_
    | refine rounds_s ?_
    | (apply Here.norm; (first | dsimp only [Env.putR, argEnv, pure1, newPtr, applyE, hset, List.length_cons, List.length_nil, List.length_append, List.set, List.cons_append, List.nil_append] | rfl); (first | dsimp only [Env.putR, argEnv, pure1, newPtr, applyE, hset, List.length_cons, List.length_nil, List.length_append, List.set, List.cons_append, List.nil_append] | rfl))
    | refine ⟨_, _, _, _, _, rfl, rfl, rfl, Fits.mk (by first | exact Nat.le_of_ble_eq_true rfl | (dsimp only; omega)), rfl, ?_⟩
    | refine ⟨_, _, _, _, _, rfl, _, rfl, ?_⟩
    | refine ⟨_, _, _, _, _, rfl, Fits.mk (by first | exact Nat.le_of_ble_eq_true rfl | (dsimp only; omega)), _, rfl, ?_⟩
    | refine ⟨Fits.mk (by first | exact Nat.le_of_ble_eq_true rfl | (dsimp only; omega)), _, rfl, ?_⟩
    | refine ⟨InB.mk (by first | decide | omega) (by first | decide | omega), ?_⟩
    | refine ⟨by decide, ?_⟩
    | fail
  rfl
end Go.Proofs.YtkocmbgpiidkdaaGreatDoor
