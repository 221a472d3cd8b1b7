import Derived.Test.YtkocmbgpiidkdaaGreatDoorKGc
set_option linter.unusedVariables false
set_option linter.unusedSimpArgs false
namespace Go.Proofs.YtkocmbgpiidkdaaGreatDoor
open Go Go.Den Go.RowKit
variable {W0 : World}
/-! flush: units, put, Same -/
theorem flush_units (n : Int) (h0 : 0 ≤ n) (h1 : n ≤ 1048576) : PureF (C W0) I.flush_units [.int .i64 n] (wv (n * 1000000)) := by
  have o1 := wide_Of (W0 := W0) n (by unfold Hi; omega)
  have o2 := wide_Of (W0 := W0) 1000000 (by unfold Hi; decide)
  have m := wide_Mul (W0 := W0) n 1000000 (by unfold R; omega) (by unfold R; decide)
  rw [wev, wenc_in (by unfold R; omega)] at m
  refine PureF.E (CallP.of_body (C_ok W0) B.flush_units rfl rfl rfl ?_)
  repeat' first
    | refine (o1).call ?_
    | refine (o2).call ?_
    | refine (m).call ?_
    | (apply Here.norm; (first | dsimp only [Env.putR, argEnv, pure1, newPtr, applyE, hset, List.length_cons, List.length_nil, List.length_append, List.set, List.cons_append, List.nil_append] | rfl); (first | dsimp only [Env.putR, argEnv, pure1, newPtr, applyE, hset, List.length_cons, List.length_nil, List.length_append, List.set, List.cons_append, List.nil_append] | rfl))
    | refine ⟨_, _, _, _, _, rfl, rfl, rfl, Fits.mk (by first | exact Nat.le_of_ble_eq_true rfl | (dsimp only; omega)), rfl, ?_⟩
    | refine ⟨_, _, _, _, _, rfl, Fits.mk (by first | exact Nat.le_of_ble_eq_true rfl | (dsimp only; omega)), _, rfl, ?_⟩
    | refine ⟨_, rfl, ?_⟩
    | fail
  rfl
abbrev bookB (w : Int) (p : ByteArray) (t : Int) (r : Value) : ABlk := .cells [.int .i64 w, .string p, .slice none 0 0, .slice none 0 0, .int .i64 t, .bool false, r] 1 true false Y.flush_book
abbrev recL (p : ByteArray) (v t : Int) : List Value := [.string p, .int .i64 (v / 18446744073709551616), .int .u64 (v % 18446744073709551616), .int .i64 t]
theorem put_call (w t v : Int) (pfx path : ByteArray) (hp : ¬ pfx = ⟨#[]⟩) (hs1 : pfx.size ≤ 1000) (hs2 : path.size ≤ 1000) (nv : PureF (C W0) I.name_Valid [.string (pfx ++ ⟨#[46]⟩ ++ path)] (.bool true)) :
    CallP (C W0) I.flush_book_put [.pointer (some ⟨0, 0, none⟩), .string path, wv v] [bookB w pfx t (.slice none 0 0)]
      (fun u h => RT (C W0).W0 1 [u] h [.tuple #[]] [bookB w pfx t (.slice (some ⟨1, 0, none⟩) 1 1), .cells (recL (pfx ++ ⟨#[46]⟩ ++ path) v t) 4 true true Y.api_Record]) (fun _ _ => False) := by
  have z0 : (⟨#[46]⟩ : ByteArray).size = 1 := rfl
  have z1 : (pfx ++ ⟨#[46]⟩).size = pfx.size + 1 := by rw [ByteArray.size_append, z0]
  have z2 : (pfx ++ ⟨#[46]⟩ ++ path).size = pfx.size + 1 + path.size := by rw [ByteArray.size_append, z1]
  refine CallP.of_body (C_ok W0) B.flush_book_put rfl rfl rfl ?_
  repeat' first
    | refine brP.tN (by omega) ?_
    | refine (nv).call ?_
    | refine ⟨(show (_ : Nat) + _ ≤ 9223372036854775807 by omega), ?_⟩
    | (apply Here.norm; (first | dsimp only [Env.putR, argEnv, pure1, newPtr, applyE, hset, List.length_cons, List.length_nil, List.length_append, List.set, List.cons_append, List.nil_append] | rfl); (first | dsimp only [Env.putR, argEnv, pure1, newPtr, applyE, hset, List.length_cons, List.length_nil, List.length_append, List.set, List.cons_append, List.nil_append] | rfl))
    | refine ⟨_, _, _, _, _, rfl, rfl, rfl, Fits.mk (by first | exact Nat.le_of_ble_eq_true rfl | (dsimp only; omega)), rfl, ?_⟩
    | refine ⟨_, _, _, _, _, rfl, _, rfl, ?_⟩
    | refine ⟨_, _, _, _, _, rfl, Fits.mk (by first | exact Nat.le_of_ble_eq_true rfl | (dsimp only; omega)), _, rfl, ?_⟩
    | refine draw_go (C_ok W0) (by kernel_rfl) ?_
    | refine ⟨cpt_ok (by kernel_rfl), ?_⟩
    | refine ⟨trivial, ?_⟩
    | refine ⟨by decide, rfl, by decide, ?_⟩
    | refine .inr ⟨by decide, _, _, _, _, _, rfl, rfl, Fits.mk (by first | exact Nat.le_of_ble_eq_true rfl | omega), ?_⟩
    | refine .inr ⟨by decide, by decide, Room.mk (by decide) (by decide), ?_⟩
    | refine ⟨by decide, ?_⟩
    | fail
  refine RT.ren [0, 3] rfl rfl ?_ ?_
  all_goals (repeat' first
    | exact trivial
    | exact LTo.nil
    | refine ⟨⟨_, rfl, ?_, (fun z => by cases z)⟩, ?_⟩
    | refine BTo.cells (fun z => z) ?_
    | refine LTo.cons ?_ ?_
    | refine VTo.int ?_
    | refine VTo.bool ?_
    | refine VTo.string ?_
    | refine VTo.tuple ?_
    | (with_reducible rfl)
    | exact VTo.n rfl
    | fail)
  all_goals first
    | rfl
    | (show VTo _ (Value.slice (some ⟨3, 0, none⟩) 1 1) _; exact VTo.slice (by decide))
    | exact LTo.n rfl
theorem put_eff (w t v : Int) (pfx path : ByteArray) (hp : ¬ pfx = ⟨#[]⟩) (hs1 : pfx.size ≤ 1000) (hs2 : path.size ≤ 1000) (nv : PureF (C W0) I.name_Valid [.string (pfx ++ ⟨#[46]⟩ ++ path)] (.bool true)) (b nid : Nat) :
    EffC (C W0) I.flush_book_put [.pointer (some ⟨b, 0, none⟩), .string path, wv v] nid ⟨some (.tuple #[]), [(b, bookB w pfx t (.slice none 0 0))], [(b, bookB w pfx t (.slice (some ⟨nid, 0, none⟩) 1 1))], [.cells (recL (pfx ++ ⟨#[46]⟩ ++ path) v t) 4 true true Y.api_Record]⟩ :=
  EffC.of [⟨b, true, bookB w pfx t (.slice none 0 0), bookB w pfx t (.slice none 0 0), bookB w pfx t (.slice (some ⟨nid, 0, none⟩) 1 1)⟩]
    (put_call w t v pfx path hp hs1 hs2 nv) ⟨fun _ h => (by cases h), trivial⟩
    ⟨BView.own rfl (by simp) (BTo.cells (fun z => z) (LTo.n rfl)), trivial⟩
    (.cons (VTo.ptr (by simp [fwd])) (.cons (VTo.n rfl) (.cons (VTo.n rfl) .nil)))
    ⟨fun _ => ⟨BTo.cells (fun z => z) (.cons (VTo.n rfl) (.cons (VTo.n rfl) (.cons (VTo.n rfl) (.cons (VTo.n rfl) (.cons (VTo.n rfl) (.cons (VTo.n rfl) (.cons (VTo.slice (by simp [bwd, bwdN])) .nil))))))), by simp⟩, trivial⟩
    ⟨⟨BTo.cells (fun z => z) (LTo.n rfl), rfl, by simp⟩, trivial⟩ (VTo.n rfl)
theorem same2 (p q : ByteArray) (a b t : Int) : PureF (C W0) I.tumblerref10_Same [LV (recL p a t ++ recL q b t) 2, LV (recL p a t ++ recL q b t) 2] (.bool true) := by
  refine PureF.E (CallP.of_body (C_ok W0) B.tumblerref10_Same rfl rfl rfl ?_)
  repeat' first
    | refine brP.f (rec_same rfl rfl rfl rfl) ?_
    | refine loop_N (C_ok W0) 4 ?_
    | refine rounds_s ?_
    | (apply Here.norm; (first | dsimp only [Env.putR, argEnv, pure1, newPtr, applyE, hset, List.length_cons, List.length_nil, List.length_append, List.set, List.cons_append, List.nil_append] | rfl); (first | dsimp only [Env.putR, argEnv, pure1, newPtr, applyE, hset, List.length_cons, List.length_nil, List.length_append, List.set, List.cons_append, List.nil_append] | rfl))
    | refine ⟨Fits.mk (by first | exact Nat.le_of_ble_eq_true rfl | (dsimp only; omega)), _, rfl, ?_⟩
    | refine draw_go (C_ok W0) (by kernel_rfl) ?_
    | refine ⟨cpt_ok (by kernel_rfl), ?_⟩
    | refine ⟨InB.mk (by first | decide | omega) (by first | decide | omega), ?_⟩
    | fail
  rfl
end Go.Proofs.YtkocmbgpiidkdaaGreatDoor
