import Derived.Test.YtkocmbgpiidkdaaGreatDoorKWa
set_option linter.unusedVariables false
set_option linter.unusedSimpArgs false
namespace Go.Proofs.YtkocmbgpiidkdaaGreatDoor
open Go Go.Den
variable {W0 : World}
theorem wide_Add (a b : Int) (ha : R a) (hb : R b) : PureF (C W0) I.wide_Add [wv a, wv b] (wev (a + b)) := by
  refine PureF.E (CallP.of_body (C_ok W0) B.wide_Add rfl rfl rfl ?_)
  obtain ⟨k1, k2, k3⟩ := add2 a b
  unfold R at ha hb
  repeat' first
    | refine ⟨k2, ?_⟩
    | refine wev_out ?_
    | refine wev_in ?_ ?_ ?_
    | (apply Here.norm; (first | dsimp only [Env.putR, argEnv, pure1, newPtr, applyE, hset, List.length_cons, List.length_nil, List.length_append, List.set, List.cons_append, List.nil_append] | rfl); (first | dsimp only [Env.putR, argEnv, pure1, newPtr, applyE, hset, List.length_cons, List.length_nil, List.length_append, List.set, List.cons_append, List.nil_append] | rfl))
    | refine brP.introD (fun h => ?_) (fun h => ?_)
    | refine brP.introN (fun h => ?_) (fun h => ?_)
    | refine ⟨_, _, _, _, _, rfl, rfl, rfl, Fits.mk (by first | exact Nat.le_of_ble_eq_true rfl | (dsimp only; omega)), rfl, ?_⟩
    | refine ⟨_, _, _, _, _, rfl, _, rfl, ?_⟩
    | refine ⟨_, _, _, _, _, rfl, Fits.mk (by first | exact Nat.le_of_ble_eq_true rfl | (dsimp only; omega)), _, rfl, ?_⟩
    | refine ⟨by decide, ?_⟩
    | refine ⟨_, rfl, ?_⟩
    | fail
  all_goals (try simp only [wr_i64, wr_u64, k1, k3, Bool.not_eq_true', Bool.not_eq_false', beq_iff_eq, beq_eq_false_iff_ne, ne_eq, decide_eq_decide] at *)
  all_goals (try unfold R)
  all_goals omega
theorem wide_Sub (a b : Int) (ha : R a) (hb : R b) : PureF (C W0) I.wide_Sub [wv a, wv b] (wev (a - b)) := by
  refine PureF.E (CallP.of_body (C_ok W0) B.wide_Sub rfl rfl rfl ?_)
  obtain ⟨k1, k3⟩ := sub2 a b
  unfold R at ha hb
  repeat' first
    | refine ⟨subHi_le _ _ _, ?_⟩
    | refine wev_out ?_
    | refine wev_in ?_ ?_ ?_
    | (apply Here.norm; (first | dsimp only [Env.putR, argEnv, pure1, newPtr, applyE, hset, List.length_cons, List.length_nil, List.length_append, List.set, List.cons_append, List.nil_append] | rfl); (first | dsimp only [Env.putR, argEnv, pure1, newPtr, applyE, hset, List.length_cons, List.length_nil, List.length_append, List.set, List.cons_append, List.nil_append] | rfl))
    | refine brP.introN (fun h => ?_) (fun h => ?_)
    | refine ⟨_, _, _, _, _, rfl, rfl, rfl, Fits.mk (by first | exact Nat.le_of_ble_eq_true rfl | (dsimp only; omega)), rfl, ?_⟩
    | refine ⟨_, _, _, _, _, rfl, _, rfl, ?_⟩
    | refine ⟨_, _, _, _, _, rfl, Fits.mk (by first | exact Nat.le_of_ble_eq_true rfl | (dsimp only; omega)), _, rfl, ?_⟩
    | refine ⟨by decide, ?_⟩
    | refine ⟨_, rfl, ?_⟩
    | fail
  all_goals (try simp only [wr_i64, wr_u64, k1, k3, Bool.not_eq_true', Bool.not_eq_false', beq_iff_eq, beq_eq_false_iff_ne, ne_eq, decide_eq_decide] at *)
  all_goals (try unfold R)
  all_goals omega
theorem wide_Neg (a : Int) (ha : R a) : PureF (C W0) I.wide_Neg [wv a] (wev (-a)) := by
  have h0 := wide_Sub (W0 := W0) 0 a (by unfold R; omega) ha
  rw [Int.zero_sub] at h0
  refine PureF.E (CallP.of_body (C_ok W0) B.wide_Neg rfl rfl rfl ?_)
  repeat' first
    | refine h0.call ?_
    | (apply Here.norm; (first | dsimp only [Env.putR, argEnv, pure1, newPtr, applyE, hset, List.length_cons, List.length_nil, List.length_append, List.set, List.cons_append, List.nil_append] | rfl); (first | dsimp only [Env.putR, argEnv, pure1, newPtr, applyE, hset, List.length_cons, List.length_nil, List.length_append, List.set, List.cons_append, List.nil_append] | rfl))
    | refine ⟨_, _, _, _, _, rfl, rfl, rfl, Fits.mk (by first | exact Nat.le_of_ble_eq_true rfl | (dsimp only; omega)), rfl, ?_⟩
    | refine ⟨_, _, _, _, _, rfl, Fits.mk (by first | exact Nat.le_of_ble_eq_true rfl | (dsimp only; omega)), _, rfl, ?_⟩
    | refine ⟨_, rfl, ?_⟩
    | fail
  rfl
def wcmp (a b : Int) : Int := if a = b then 0 else if a < b then -1 else 1
theorem wide_Cmp (a b : Int) (ha : R a) (hb : R b) : PureF (C W0) I.wide_Cmp [wv a, wv b] (.int .i64 (wcmp a b)) := by
  refine PureF.E (CallP.of_body (C_ok W0) B.wide_Cmp rfl rfl rfl ?_)
  unfold R at ha hb
  repeat' first
    | refine vi ?_
    | (apply Here.norm; (first | dsimp only [Env.putR, argEnv, pure1, newPtr, applyE, hset, List.length_cons, List.length_nil, List.length_append, List.set, List.cons_append, List.nil_append] | rfl); (first | dsimp only [Env.putR, argEnv, pure1, newPtr, applyE, hset, List.length_cons, List.length_nil, List.length_append, List.set, List.cons_append, List.nil_append] | rfl))
    | refine brP.introD (fun h => ?_) (fun h => ?_)
    | refine brP.intro (fun h => ?_) (fun h => ?_)
    | refine ⟨_, _, _, _, _, rfl, _, rfl, ?_⟩
    | refine ⟨_, _, _, _, _, rfl, Fits.mk (by first | exact Nat.le_of_ble_eq_true rfl | (dsimp only; omega)), _, rfl, ?_⟩
    | refine ⟨by decide, ?_⟩
    | fail
  all_goals (try simp only [Bool.not_eq_true', Bool.not_eq_false', Bool.and_true, Bool.and_eq_true, Bool.and_eq_false_iff, decide_eq_true_eq, decide_eq_false_iff_not] at *)
  all_goals (unfold wcmp)

  all_goals omega
theorem wide_Sign (a : Int) (ha : R a) : PureF (C W0) I.wide_Sign [wv a] (.int .i64 (wcmp a 0)) := by
  have h0 := wide_Cmp (W0 := W0) a 0 ha (by unfold R; omega)
  refine PureF.E (CallP.of_body (C_ok W0) B.wide_Sign rfl rfl rfl ?_)
  repeat' first
    | refine h0.call ?_
    | (apply Here.norm; (first | dsimp only [Env.putR, argEnv, pure1, newPtr, applyE, hset, List.length_cons, List.length_nil, List.length_append, List.set, List.cons_append, List.nil_append] | rfl); (first | dsimp only [Env.putR, argEnv, pure1, newPtr, applyE, hset, List.length_cons, List.length_nil, List.length_append, List.set, List.cons_append, List.nil_append] | rfl))
    | refine ⟨_, _, _, _, _, rfl, Fits.mk (by first | exact Nat.le_of_ble_eq_true rfl | (dsimp only; omega)), _, rfl, ?_⟩
    | fail
  rfl
end Go.Proofs.YtkocmbgpiidkdaaGreatDoor
