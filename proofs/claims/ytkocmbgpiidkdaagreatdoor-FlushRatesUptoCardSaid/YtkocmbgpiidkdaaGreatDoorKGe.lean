import Derived.Test.YtkocmbgpiidkdaaGreatDoorKGc
set_option linter.unusedVariables false
set_option linter.unusedSimpArgs false
namespace Go.Proofs.YtkocmbgpiidkdaaGreatDoor
open Go Go.Den Go.RowKit
variable {W0 : World}
/-! FlushRates -/
theorem quo_ok {a n : Int} (ha : R a) (hn : 1 ≤ n) : (quo3 a n).2.2 = 0 := by
  unfold quo3
  rw [if_neg (by omega), if_pos]
  unfold R at ha ⊢
  rcases Int.le_total 0 a with h | h
  · rw [Int.tdiv_eq_ediv_of_nonneg h]
    have h1 := Int.ediv_nonneg h (show 0 ≤ n by omega)
    have h2 := Int.ediv_le_self n h
    omega
  · have e : Int.tdiv a n = -(Int.tdiv (-a) n) := by rw [Int.neg_tdiv]; omega
    rw [e, Int.tdiv_eq_ediv_of_nonneg (by omega)]
    have h1 := Int.ediv_nonneg (show 0 ≤ -a by omega) (show 0 ≤ n by omega)
    have h2 := Int.ediv_le_self n (show 0 ≤ -a by omega)
    omega
theorem wsame {x y : Int} : (decide (x = x) && (decide (y = y) && true)) = true := by simp
theorem begin_ok {id w : Int} (h : (beginV id w).2 = 0) : 1 ≤ w := by
  unfold beginV at h
  by_cases c : wrongW w = true
  · rw [if_pos c] at h; cases h
  · unfold wrongW at c; simp at c; omega
attribute [local irreducible] quo3 beginV shareV
abbrev qCount : ByteArray := ⟨#[99, 111, 117, 110, 116, 101, 114, 115, 46]⟩ ++ ⟨#[110]⟩ ++ ⟨#[46, 99, 111, 117, 110, 116]⟩
abbrev qRate : ByteArray := ⟨#[99, 111, 117, 110, 116, 101, 114, 115, 46]⟩ ++ ⟨#[110]⟩ ++ ⟨#[46, 114, 97, 116, 101]⟩
theorem qcount_is : qCount = bs [99, 111, 117, 110, 116, 101, 114, 115, 46, 110, 46, 99, 111, 117, 110, 116] := by kernel_rfl
theorem qrate_is : qRate = bs [99, 111, 117, 110, 116, 101, 114, 115, 46, 110, 46, 114, 97, 116, 101] := by kernel_rfl
theorem qcmp_rate : Extern.BytealgCompare.cmp qRate qCount = 1 := by kernel_rfl
theorem share_ok {a n : Int} (ha : R a) (hn : 1 ≤ n) : (shareV a n).2 = 0 := by
  unfold shareV; rw [if_neg (by omega)]; exact quo_ok ha hn
set_option maxRecDepth 20000 in
set_option maxHeartbeats 16000000 in
theorem flushRates (hW : WF W0) (a id w : Int) (ha : R a) (hi : Hi id) (hw : Hi w) : PureF (C W0) I.tumblerlaw10_FlushRates [wv a, .int .i64 id, .int .i64 w] (.bool true) := by
  have ck := check_nil hW [] (by decide) (.inl rfl)
  have bg := window_Begin (W0 := W0) id w
  have nA := name_Valid hW [110] (by decide)
  rw [show okName [110] = true by kernel_rfl] at nA
  have nC := name_Valid hW [99, 111, 117, 110, 116, 101, 114, 115, 46, 110, 46, 99, 111, 117, 110, 116] (by decide)
  rw [show okName [99, 111, 117, 110, 116, 101, 114, 115, 46, 110, 46, 99, 111, 117, 110, 116] = true by kernel_rfl, ← qcount_is] at nC
  have nR := name_Valid hW [99, 111, 117, 110, 116, 101, 114, 115, 46, 110, 46, 114, 97, 116, 101] (by decide)
  rw [show okName [99, 111, 117, 110, 116, 101, 114, 115, 46, 110, 46, 114, 97, 116, 101] = true by kernel_rfl, ← qrate_is] at nR
  have sh := micro_Share (W0 := W0) a w ha hw
  have cm := fun a b c d e f => flush_cmp (W0 := W0) qRate qCount a b c d e f
  rw [qcmp_rate] at cm
  have aw := flush_awake hW
  have bo := begin_ok (id := id) (w := w)
  have hc : qCount = ⟨#[99, 111, 117, 110, 116, 101, 114, 115, 46, 110, 46, 99, 111, 117, 110, 116]⟩ := qcount_is
  have hr : qRate = ⟨#[99, 111, 117, 110, 116, 101, 114, 115, 46, 110, 46, 114, 97, 116, 101]⟩ := qrate_is
  have hn : ¬ qCount = ⟨#[99, 111, 117, 110, 116, 101, 114, 115, 46, 110, 46, 114, 97, 116, 101]⟩ := by rw [hc]; decide
  refine PureF.E (CallP.of_body (C_ok W0) B.tumblerlaw10_FlushRates rfl rfl rfl ?_)
  generalize beginV id w = z at *
  obtain ⟨t, e⟩ := z
  dsimp only at bg bo ⊢
  by_cases h : e = 0
  · subst h
    have so := share_ok ha (bo rfl)
    rw [so] at sh
    repeat' first
      | refine (ck).call ?_
      | refine (bg).call ?_
      | refine (CallP.of_body (C_ok W0) B.flush_Records rfl rfl rfl ?_)
      | refine (CallP.of_body (C_ok W0) B.flush_ways rfl rfl rfl ?_)
      | (apply Here.norm; (first | dsimp only [Env.putR, argEnv, pure1, newPtr, applyE, hset, List.length_cons, List.length_nil, List.length_append, List.set, List.cons_append, List.nil_append] | rfl); (first | dsimp only [Env.putR, argEnv, pure1, newPtr, applyE, hset, List.length_cons, List.length_nil, List.length_append, List.set, List.cons_append, List.nil_append] | rfl))
      | refine ⟨_, _, _, _, _, rfl, _, rfl, ?_⟩
      | refine ⟨_, _, _, _, _, rfl, Fits.mk (by first | exact Nat.le_of_ble_eq_true rfl | (dsimp only; omega)), _, rfl, ?_⟩
      | refine ⟨by decide, rfl, by decide, ?_⟩
      | refine ⟨by decide, ?_⟩
      | refine ⟨_, rfl, ?_⟩
      | fail
    refine ⟨_, _, _, rfl, rfl, ?_⟩
    dsimp only [lookV, updM]
    repeat' first
      | refine ⟨by decide, ?_⟩
      | fail
    refine ⟨_, _, _, rfl, rfl, ?_⟩
    dsimp only [lookV, updM]
    repeat' first
      | refine ⟨by decide, ?_⟩
      | fail
    refine ⟨_, _, _, rfl, rfl, ?_⟩
    dsimp only [lookV, updM]
    repeat' first
      | refine ⟨by decide, ?_⟩
      | fail
    refine ⟨_, _, _, rfl, rfl, ?_⟩
    dsimp only [lookV, updM]
    repeat' first
      | refine loop_N (C_ok W0) 4 ?_
      | refine rounds_s ?_
      | (apply Here.norm; (first | dsimp only [Env.putR, argEnv, pure1, newPtr, applyE, hset, List.length_cons, List.length_nil, List.length_append, List.set, List.cons_append, List.nil_append] | rfl); (first | dsimp only [Env.putR, argEnv, pure1, newPtr, applyE, hset, List.length_cons, List.length_nil, List.length_append, List.set, List.cons_append, List.nil_append] | rfl))
      | refine ⟨_, _, _, _, _, rfl, rfl, rfl, Fits.mk (by first | exact Nat.le_of_ble_eq_true rfl | (dsimp only; omega)), rfl, ?_⟩
      | refine ⟨_, _, _, _, _, rfl, _, rfl, ?_⟩
      | refine ⟨_, _, _, _, _, rfl, Fits.mk (by first | exact Nat.le_of_ble_eq_true rfl | (dsimp only; omega)), _, rfl, ?_⟩
      | refine ⟨InB.mk (by first | decide | omega) (by first | decide | omega), ?_⟩
      | refine ⟨by decide, ?_⟩
      | fail
    refine ⟨_, _, _, rfl, rfl, ?_⟩
    dsimp only [lookV, updM]
    repeat' first
      | refine (nA).call ?_
      | refine .inl ⟨_, (itoa_1 (W0 := W0)), ?_⟩
      | (apply Here.norm; (first | dsimp only [Env.putR, argEnv, pure1, newPtr, applyE, hset, List.length_cons, List.length_nil, List.length_append, List.set, List.cons_append, List.nil_append] | rfl); (first | dsimp only [Env.putR, argEnv, pure1, newPtr, applyE, hset, List.length_cons, List.length_nil, List.length_append, List.set, List.cons_append, List.nil_append] | rfl))
      | refine ⟨_, _, _, _, _, rfl, _, rfl, ?_⟩
      | refine draw_go (C_ok W0) (by kernel_rfl) ?_
      | refine ⟨cpt_ok (by kernel_rfl), ?_⟩
      | refine ⟨by decide, ?_⟩
      | refine ⟨_, rfl, ?_⟩
      | fail
    refine ⟨_, _, _, rfl, rfl, ?_⟩
    dsimp only [lookV, updM]
    repeat' first
      | refine ⟨by decide, ?_⟩
      | fail
    refine ⟨_, _, _, rfl, rfl, ?_⟩
    dsimp only [lookV, updM]
    repeat' first
      | (apply Here.norm; (first | dsimp only [Env.putR, argEnv, pure1, newPtr, applyE, hset, List.length_cons, List.length_nil, List.length_append, List.set, List.cons_append, List.nil_append] | rfl); (first | dsimp only [Env.putR, argEnv, pure1, newPtr, applyE, hset, List.length_cons, List.length_nil, List.length_append, List.set, List.cons_append, List.nil_append] | rfl))
      | refine ⟨by decide, ?_⟩
      | fail
    refine ⟨_, _, _, rfl, (mfind_self _ _ _ _), ?_⟩
    dsimp only [lookV, updM]
    repeat' first
      | refine .inr ⟨by decide, _, _, _, _, _, rfl, rfl, Room.mk (by decide) (by decide), .inr (.inr ⟨by decide, rfl, rfl, rfl, rfl, by decide, rfl, ?_⟩)⟩
      | refine loop_N (C_ok W0) 4 ?_
      | refine rounds_s ?_
      | refine (aw).call ?_
      | refine (bg).call ?_
      | refine (nC).call ?_
      | refine (nR).call ?_
      | refine (sh).call ?_
      | refine .inl ⟨_, sh, ?_⟩
      | refine .inl ⟨_, (cm _ _ _ _ _ _), ?_⟩
      | refine (CallP.of_body (C_ok W0) B.flush_book_counter rfl rfl rfl ?_)
      | refine (CallP.of_body (C_ok W0) B.flush_book_rate rfl rfl rfl ?_)
      | refine (CallP.of_body (C_ok W0) B.flush_book_put rfl rfl rfl ?_)
      | refine (CallP.of_body (C_ok W0) B.slices_SortFunc_api_Record_api_Record rfl rfl rfl ?_)
      | refine (CallP.of_body (C_ok W0) B.slices_pdqsortCmpFunc_api_Record rfl rfl rfl ?_)
      | refine (CallP.of_body (C_ok W0) B.slices_insertionSortCmpFunc_api_Record rfl rfl rfl ?_)
      | refine (CallP.of_body (C_ok W0) B.math_bits_Len rfl rfl rfl ?_)
      | refine (CallP.of_body (C_ok W0) B.math_bits_Len64 rfl rfl rfl ?_)
      | refine (CallP.of_body (C_ok W0) B.tumblerlaw10_find rfl rfl rfl ?_)
      | refine brP.t wsame ?_
      | (apply Here.norm; (first | dsimp only [Env.putR, argEnv, pure1, newPtr, applyE, hset, List.length_cons, List.length_nil, List.length_append, List.set, List.cons_append, List.nil_append] | rfl); (first | dsimp only [Env.putR, argEnv, pure1, newPtr, applyE, hset, List.length_cons, List.length_nil, List.length_append, List.set, List.cons_append, List.nil_append] | rfl))
      | refine ⟨_, _, _, _, _, rfl, rfl, rfl, Fits.mk (by first | exact Nat.le_of_ble_eq_true rfl | (dsimp only; omega)), rfl, ?_⟩
      | refine ⟨_, _, _, _, _, rfl, _, rfl, ?_⟩
      | refine ⟨_, _, _, _, _, rfl, Fits.mk (by first | exact Nat.le_of_ble_eq_true rfl | (dsimp only; omega)), _, rfl, ?_⟩
      | refine draw_go (C_ok W0) (by kernel_rfl) ?_
      | refine ⟨cpt_ok (by kernel_rfl), ?_⟩
      | refine ⟨InB.mk (by first | decide | omega) (by first | decide | omega), ?_⟩
      | refine ⟨trivial, ?_⟩
      | refine ⟨by decide, rfl, by decide, ?_⟩
      | refine .inr ⟨by decide, _, _, _, _, _, rfl, rfl, Fits.mk (by first | exact Nat.le_of_ble_eq_true rfl | omega), ?_⟩
      | refine .inr ⟨by decide, by decide, Room.mk (by decide) (by decide), ?_⟩
      | refine ⟨by decide, ?_⟩
      | refine ⟨_, rfl, ?_⟩
      | fail
    exact congrArg Value.bool wsame
  ·
    repeat' first
      | refine brP.tD (by omega) ?_
      | refine brP.tN (by omega) ?_
      | refine (ck).call ?_
      | refine (bg).call ?_
      | refine (CallP.of_body (C_ok W0) B.flush_Records rfl rfl rfl ?_)
      | (apply Here.norm; (first | dsimp only [Env.putR, argEnv, pure1, newPtr, applyE, hset, List.length_cons, List.length_nil, List.length_append, List.set, List.cons_append, List.nil_append] | rfl); (first | dsimp only [Env.putR, argEnv, pure1, newPtr, applyE, hset, List.length_cons, List.length_nil, List.length_append, List.set, List.cons_append, List.nil_append] | rfl))
      | refine ⟨_, _, _, _, _, rfl, _, rfl, ?_⟩
      | refine ⟨_, _, _, _, _, rfl, Fits.mk (by first | exact Nat.le_of_ble_eq_true rfl | (dsimp only; omega)), _, rfl, ?_⟩
      | refine ⟨by decide, rfl, by decide, ?_⟩
      | refine ⟨by decide, ?_⟩
      | refine ⟨_, rfl, ?_⟩
      | fail
    first
      | rfl
      | exact congrArg Value.bool (decide_eq_true rfl)
end Go.Proofs.YtkocmbgpiidkdaaGreatDoor
