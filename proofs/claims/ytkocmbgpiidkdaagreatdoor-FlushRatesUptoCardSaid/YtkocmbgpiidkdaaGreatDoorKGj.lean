import Derived.Test.YtkocmbgpiidkdaaGreatDoorKGi
set_option linter.unusedVariables false
set_option linter.unusedSimpArgs false
namespace Go.Proofs.YtkocmbgpiidkdaaGreatDoor
open Go Go.Den Go.RowKit
variable {W0 : World}
/-! FlushRates -/
theorem quo_ok {a n : Int} (ha : R a) (hn : 1 ≤ n) : (quo3 a n).2.2 = 0 := by
  unfold quo3
  rw [if_neg (by omega), if_pos]
  unfold R at ha ⊢
  rcases Int.le_total 0 a with h | h
  · rw [Int.tdiv_eq_ediv_of_nonneg h]
    have h1 := Int.ediv_nonneg h (show 0 ≤ n by omega)
    have h2 := Int.ediv_le_self n h
    omega
  · have e : Int.tdiv a n = -(Int.tdiv (-a) n) := by rw [Int.neg_tdiv]; omega
    rw [e, Int.tdiv_eq_ediv_of_nonneg (by omega)]
    have h1 := Int.ediv_nonneg (show 0 ≤ -a by omega) (show 0 ≤ n by omega)
    have h2 := Int.ediv_le_self n (show 0 ≤ -a by omega)
    omega
theorem wsame {x y : Int} : (decide (x = x) && (decide (y = y) && true)) = true := by simp
theorem begin_ok {id w : Int} (h : (beginV id w).2 = 0) : 1 ≤ w := by
  unfold beginV at h
  by_cases c : wrongW w = true
  · rw [if_pos c] at h; cases h
  · unfold wrongW at c; simp at c; omega
attribute [local irreducible] quo3 beginV shareV
abbrev qCount : ByteArray := ⟨#[99, 111, 117, 110, 116, 101, 114, 115, 46]⟩ ++ ⟨#[110]⟩ ++ ⟨#[46, 99, 111, 117, 110, 116]⟩
abbrev qRate : ByteArray := ⟨#[99, 111, 117, 110, 116, 101, 114, 115, 46]⟩ ++ ⟨#[110]⟩ ++ ⟨#[46, 114, 97, 116, 101]⟩
theorem qcount_is : qCount = bs [99, 111, 117, 110, 116, 101, 114, 115, 46, 110, 46, 99, 111, 117, 110, 116] := by kernel_rfl
theorem qrate_is : qRate = bs [99, 111, 117, 110, 116, 101, 114, 115, 46, 110, 46, 114, 97, 116, 101] := by kernel_rfl
theorem qcmp_rate : Extern.BytealgCompare.cmp qRate qCount = 1 := by kernel_rfl
theorem share_ok {a n : Int} (ha : R a) (hn : 1 ≤ n) : (shareV a n).2 = 0 := by
  unfold shareV; rw [if_neg (by omega)]; exact quo_ok ha hn
set_option maxRecDepth 20000 in
set_option maxHeartbeats 16000000 in
theorem flushRates (hW : WF W0) (a id w : Int) (ha : R a) (hi : Hi id) (hw : Hi w) : PureF (C W0) I.tumblerlaw10_FlushRates [wv a, .int .i64 id, .int .i64 w] (.bool true) := by
  have ck := check_nil hW [] (by decide) (.inl rfl)
  have bg := window_Begin (W0 := W0) id w
  have nA := name_Valid hW [110] (by decide)
  rw [show okName [110] = true by kernel_rfl] at nA
  have nC := name_Valid hW [99, 111, 117, 110, 116, 101, 114, 115, 46, 110, 46, 99, 111, 117, 110, 116] (by decide)
  rw [show okName [99, 111, 117, 110, 116, 101, 114, 115, 46, 110, 46, 99, 111, 117, 110, 116] = true by kernel_rfl, ← qcount_is] at nC
  have nR := name_Valid hW [99, 111, 117, 110, 116, 101, 114, 115, 46, 110, 46, 114, 97, 116, 101] (by decide)
  rw [show okName [99, 111, 117, 110, 116, 101, 114, 115, 46, 110, 46, 114, 97, 116, 101] = true by kernel_rfl, ← qrate_is] at nR
  have sh := micro_Share (W0 := W0) a w ha hw
  have aw := flush_awake hW
  have bo := begin_ok (id := id) (w := w)
  have hc : qCount = ⟨#[99, 111, 117, 110, 116, 101, 114, 115, 46, 110, 46, 99, 111, 117, 110, 116]⟩ := qcount_is
  have hr : qRate = ⟨#[99, 111, 117, 110, 116, 101, 114, 115, 46, 110, 46, 114, 97, 116, 101]⟩ := qrate_is
  have hn : ¬ qCount = qRate := by rw [hc, hr]; decide
  generalize hz : beginV id w = z at bg bo
  obtain ⟨t, e⟩ := z
  dsimp only at bg bo
  by_cases h : e = 0
  · subst h
    have so0 := share_ok ha (bo rfl)
    rw [so0] at sh
    have p1 := fun nid => pot_eff (W0 := W0) w t a qCount nC 4 nid
    have p2 := fun nid => pot2_eff (W0 := W0) w t (shareV a w).1 a qRate qCount nR 4 9 nid (by decide)
    have so := fun nid => sark_eff (W0 := W0) qCount qRate a (shareV a w).1 t qcmp_rate 12 nid
    have g1 : PureF (C W0) I.tumblerlaw10_find [LV (recL qCount a t ++ recL qRate (shareV a w).1 t) 2, .string ⟨#[99, 111, 117, 110, 116, 101, 114, 115, 46, 110, 46, 99, 111, 117, 110, 116]⟩] (.tuple #[wv a, .bool true]) := by
      rw [← hc]; exact find_1 _ _ _ _ _
    have g2 : PureF (C W0) I.tumblerlaw10_find [LV (recL qCount a t ++ recL qRate (shareV a w).1 t) 2, .string ⟨#[99, 111, 117, 110, 116, 101, 114, 115, 46, 110, 46, 114, 97, 116, 101]⟩] (.tuple #[wv (shareV a w).1, .bool true]) := by
      rw [← hr]; exact find_2 _ _ _ _ _ hn
    have f1 : ∀ nid, EffC (C W0) I.tumblerlaw10_find [.slice (some ⟨12, 0, none⟩) 2 2, .string ⟨#[99, 111, 117, 110, 116, 101, 114, 115, 46, 110, 46, 99, 111, 117, 110, 116]⟩] nid ⟨some (.tuple #[wv a, .bool true]), [(12, .cells (recL qCount a t ++ recL qRate (shareV a w).1 t) 4 true true Y.api_Record)], [], []⟩ := fun nid =>
      g1.lend (.tuple (by simp [AF.bool, wv_af])) _ (by exact ⟨inferInstance, trivial⟩) (.cons (VTo.lend (List.Mem.head _) (by simp) rfl) (.cons (VTo.n rfl) .nil)) nid
    have f2 : ∀ nid, EffC (C W0) I.tumblerlaw10_find [.slice (some ⟨12, 0, none⟩) 2 2, .string ⟨#[99, 111, 117, 110, 116, 101, 114, 115, 46, 110, 46, 114, 97, 116, 101]⟩] nid ⟨some (.tuple #[wv (shareV a w).1, .bool true]), [(12, .cells (recL qCount a t ++ recL qRate (shareV a w).1 t) 4 true true Y.api_Record)], [], []⟩ := fun nid =>
      g2.lend (.tuple (by simp [AF.bool, wv_af])) _ (by exact ⟨inferInstance, trivial⟩) (.cons (VTo.lend (List.Mem.head _) (by simp) rfl) (.cons (VTo.n rfl) .nil)) nid
    refine PureF.E (CallP.of_body (C_ok W0) B.tumblerlaw10_FlushRates rfl rfl rfl ?_)
    repeat' first
      | refine (ck).call ?_
      | refine (bg).call ?_
      | refine (CallP.of_body (C_ok W0) B.flush_Records rfl rfl rfl ?_)
      | refine (CallP.of_body (C_ok W0) B.flush_ways rfl rfl rfl ?_)
      | (apply Here.norm; (first | dsimp only [Env.putR, argEnv, pure1, newPtr, applyE, hset, List.length_cons, List.length_nil, List.length_append, List.set, List.cons_append, List.nil_append] | rfl); (first | dsimp only [Env.putR, argEnv, pure1, newPtr, applyE, hset, List.length_cons, List.length_nil, List.length_append, List.set, List.cons_append, List.nil_append] | rfl))
      | refine ⟨_, _, _, _, _, rfl, _, rfl, ?_⟩
      | refine ⟨_, _, _, _, _, rfl, Fits.mk (by first | exact Nat.le_of_ble_eq_true rfl | (dsimp only; omega)), _, rfl, ?_⟩
      | refine ⟨by decide, rfl, by decide, ?_⟩
      | refine ⟨by decide, ?_⟩
      | refine ⟨_, rfl, ?_⟩
      | fail
    refine ⟨_, _, _, rfl, rfl, ?_⟩
    dsimp only [lookV, updM]
    repeat' first
      | refine ⟨by decide, ?_⟩
      | fail
    refine ⟨_, _, _, rfl, rfl, ?_⟩
    dsimp only [lookV, updM]
    repeat' first
      | refine ⟨by decide, ?_⟩
      | fail
    refine ⟨_, _, _, rfl, rfl, ?_⟩
    dsimp only [lookV, updM]
    repeat' first
      | refine ⟨by decide, ?_⟩
      | fail
    refine ⟨_, _, _, rfl, rfl, ?_⟩
    dsimp only [lookV, updM]
    repeat' first
      | refine loop_N (C_ok W0) 4 ?_
      | refine rounds_s ?_
      | (apply Here.norm; (first | dsimp only [Env.putR, argEnv, pure1, newPtr, applyE, hset, List.length_cons, List.length_nil, List.length_append, List.set, List.cons_append, List.nil_append] | rfl); (first | dsimp only [Env.putR, argEnv, pure1, newPtr, applyE, hset, List.length_cons, List.length_nil, List.length_append, List.set, List.cons_append, List.nil_append] | rfl))
      | refine ⟨_, _, _, _, _, rfl, rfl, rfl, Fits.mk (by first | exact Nat.le_of_ble_eq_true rfl | (dsimp only; omega)), rfl, ?_⟩
      | refine ⟨_, _, _, _, _, rfl, _, rfl, ?_⟩
      | refine ⟨_, _, _, _, _, rfl, Fits.mk (by first | exact Nat.le_of_ble_eq_true rfl | (dsimp only; omega)), _, rfl, ?_⟩
      | refine ⟨InB.mk (by first | decide | omega) (by first | decide | omega), ?_⟩
      | refine ⟨by decide, ?_⟩
      | fail
    refine ⟨_, _, _, rfl, rfl, ?_⟩
    dsimp only [lookV, updM]
    repeat' first
      | refine (nA).call ?_
      | refine .inl ⟨_, (itoa_1 (W0 := W0)), ?_⟩
      | (apply Here.norm; (first | dsimp only [Env.putR, argEnv, pure1, newPtr, applyE, hset, List.length_cons, List.length_nil, List.length_append, List.set, List.cons_append, List.nil_append] | rfl); (first | dsimp only [Env.putR, argEnv, pure1, newPtr, applyE, hset, List.length_cons, List.length_nil, List.length_append, List.set, List.cons_append, List.nil_append] | rfl))
      | refine ⟨_, _, _, _, _, rfl, _, rfl, ?_⟩
      | refine draw_go (C_ok W0) (by kernel_rfl) ?_
      | refine ⟨cpt_ok (by kernel_rfl), ?_⟩
      | refine ⟨by decide, ?_⟩
      | refine ⟨_, rfl, ?_⟩
      | fail
    refine ⟨_, _, _, rfl, rfl, ?_⟩
    dsimp only [lookV, updM]
    repeat' first
      | refine ⟨by decide, ?_⟩
      | fail
    refine ⟨_, _, _, rfl, rfl, ?_⟩
    dsimp only [lookV, updM]
    repeat' first
      | (apply Here.norm; (first | dsimp only [Env.putR, argEnv, pure1, newPtr, applyE, hset, List.length_cons, List.length_nil, List.length_append, List.set, List.cons_append, List.nil_append] | rfl); (first | dsimp only [Env.putR, argEnv, pure1, newPtr, applyE, hset, List.length_cons, List.length_nil, List.length_append, List.set, List.cons_append, List.nil_append] | rfl))
      | refine ⟨by decide, ?_⟩
      | fail
    refine ⟨_, _, _, rfl, (mfind_self _ _ _ _), ?_⟩
    dsimp only [lookV, updM]
    repeat' first
      | refine rounds_s ?_
      | refine (aw).call ?_
      | refine (bg).call ?_
      | refine (sh).call ?_
      | refine .inl ⟨_, sh, ?_⟩
      | refine (p1 _).call (by first | exact trivial | exact ⟨rfl, trivial⟩ | exact ⟨rfl, rfl, trivial⟩ | exact ⟨rfl, rfl, rfl, trivial⟩) ?_
      | refine (p2 _).call (by first | exact trivial | exact ⟨rfl, trivial⟩ | exact ⟨rfl, rfl, trivial⟩ | exact ⟨rfl, rfl, rfl, trivial⟩) ?_
      | refine (so _).call (by first | exact trivial | exact ⟨rfl, trivial⟩ | exact ⟨rfl, rfl, trivial⟩ | exact ⟨rfl, rfl, rfl, trivial⟩) ?_
      | refine (f1 _).call (by first | exact trivial | exact ⟨rfl, trivial⟩ | exact ⟨rfl, rfl, trivial⟩ | exact ⟨rfl, rfl, rfl, trivial⟩) ?_
      | refine (f2 _).call (by first | exact trivial | exact ⟨rfl, trivial⟩ | exact ⟨rfl, rfl, trivial⟩ | exact ⟨rfl, rfl, rfl, trivial⟩) ?_
      | refine (CallP.of_body (C_ok W0) B.flush_book_counter rfl rfl rfl ?_)
      | refine (CallP.of_body (C_ok W0) B.flush_book_rate rfl rfl rfl ?_)
      | refine brP.t wsame ?_
      | (apply Here.norm; (first | dsimp only [Env.putR, argEnv, pure1, newPtr, applyE, hset, List.length_cons, List.length_nil, List.length_append, List.set, List.cons_append, List.nil_append] | rfl); (first | dsimp only [Env.putR, argEnv, pure1, newPtr, applyE, hset, List.length_cons, List.length_nil, List.length_append, List.set, List.cons_append, List.nil_append] | rfl))
      | refine ⟨_, _, _, _, _, rfl, rfl, rfl, Fits.mk (by first | exact Nat.le_of_ble_eq_true rfl | (dsimp only; omega)), rfl, ?_⟩
      | refine ⟨_, _, _, _, _, rfl, _, rfl, ?_⟩
      | refine ⟨_, _, _, _, _, rfl, Fits.mk (by first | exact Nat.le_of_ble_eq_true rfl | (dsimp only; omega)), _, rfl, ?_⟩
      | refine draw_go (C_ok W0) (by kernel_rfl) ?_
      | refine ⟨cpt_ok (by kernel_rfl), ?_⟩
      | refine ⟨by decide, ?_⟩
      | refine ⟨_, rfl, ?_⟩
      | fail
    exact congrArg Value.bool wsame
  · refine PureF.E (CallP.of_body (C_ok W0) B.tumblerlaw10_FlushRates rfl rfl rfl ?_)
    repeat' first
      | refine brP.tD (by omega) ?_
      | refine brP.tN (by omega) ?_
      | refine (ck).call ?_
      | refine (bg).call ?_
      | refine (CallP.of_body (C_ok W0) B.flush_Records rfl rfl rfl ?_)
      | (apply Here.norm; (first | dsimp only [Env.putR, argEnv, pure1, newPtr, applyE, hset, List.length_cons, List.length_nil, List.length_append, List.set, List.cons_append, List.nil_append] | rfl); (first | dsimp only [Env.putR, argEnv, pure1, newPtr, applyE, hset, List.length_cons, List.length_nil, List.length_append, List.set, List.cons_append, List.nil_append] | rfl))
      | refine ⟨_, _, _, _, _, rfl, _, rfl, ?_⟩
      | refine ⟨_, _, _, _, _, rfl, Fits.mk (by first | exact Nat.le_of_ble_eq_true rfl | (dsimp only; omega)), _, rfl, ?_⟩
      | refine ⟨by decide, rfl, by decide, ?_⟩
      | refine ⟨by decide, ?_⟩
      | refine ⟨_, rfl, ?_⟩
      | fail
    first
      | rfl
      | exact congrArg Value.bool (decide_eq_true rfl)
end Go.Proofs.YtkocmbgpiidkdaaGreatDoor
