import Derived.Test.YtioahngbfdfcaaaDoorKMr
set_option linter.unusedVariables false
set_option linter.unusedSimpArgs false
namespace Go.Proofs.YtioahngbfdfcaaaDoor
open Go Go.Den Go.RowKit
variable {W0 : World}
/-! micro: the worth of a decimal; Parse -/
theorem micro_tens (n : Nat) (h : n ≤ 6) : PureF (C W0) I.micro_tens [.int .i64 n] (.int .i64 ((10 ^ n : Nat) : Int)) := by
  refine PureF.E (CallP.of_body (C_ok W0) B.micro_tens rfl rfl rfl ?_)
  match n, h with
  | 0, _ => 
    repeat' first
      | (apply Here.norm; (first | dsimp only [Env.putR, argEnv, pure1, newPtr, applyE, hset, List.length_cons, List.length_nil, List.length_append, List.set, List.cons_append, List.nil_append] | rfl); (first | dsimp only [Env.putR, argEnv, pure1, newPtr, applyE, hset, List.length_cons, List.length_nil, List.length_append, List.set, List.cons_append, List.nil_append] | rfl))
      | refine ⟨_, _, _, _, _, rfl, rfl, rfl, Fits.mk (by first | exact Nat.le_of_ble_eq_true rfl | (dsimp only; omega)), rfl, ?_⟩
      | refine ⟨_, _, _, _, _, rfl, _, rfl, ?_⟩
      | refine ⟨InB.mk (by first | decide | omega) (by first | decide | omega), ?_⟩
      | fail
    rfl
  | 1, _ => 
    repeat' first
      | (apply Here.norm; (first | dsimp only [Env.putR, argEnv, pure1, newPtr, applyE, hset, List.length_cons, List.length_nil, List.length_append, List.set, List.cons_append, List.nil_append] | rfl); (first | dsimp only [Env.putR, argEnv, pure1, newPtr, applyE, hset, List.length_cons, List.length_nil, List.length_append, List.set, List.cons_append, List.nil_append] | rfl))
      | refine ⟨_, _, _, _, _, rfl, rfl, rfl, Fits.mk (by first | exact Nat.le_of_ble_eq_true rfl | (dsimp only; omega)), rfl, ?_⟩
      | refine ⟨_, _, _, _, _, rfl, _, rfl, ?_⟩
      | refine ⟨InB.mk (by first | decide | omega) (by first | decide | omega), ?_⟩
      | fail
    rfl
  | 2, _ => 
    repeat' first
      | (apply Here.norm; (first | dsimp only [Env.putR, argEnv, pure1, newPtr, applyE, hset, List.length_cons, List.length_nil, List.length_append, List.set, List.cons_append, List.nil_append] | rfl); (first | dsimp only [Env.putR, argEnv, pure1, newPtr, applyE, hset, List.length_cons, List.length_nil, List.length_append, List.set, List.cons_append, List.nil_append] | rfl))
      | refine ⟨_, _, _, _, _, rfl, rfl, rfl, Fits.mk (by first | exact Nat.le_of_ble_eq_true rfl | (dsimp only; omega)), rfl, ?_⟩
      | refine ⟨_, _, _, _, _, rfl, _, rfl, ?_⟩
      | refine ⟨InB.mk (by first | decide | omega) (by first | decide | omega), ?_⟩
      | fail
    rfl
  | 3, _ => 
    repeat' first
      | (apply Here.norm; (first | dsimp only [Env.putR, argEnv, pure1, newPtr, applyE, hset, List.length_cons, List.length_nil, List.length_append, List.set, List.cons_append, List.nil_append] | rfl); (first | dsimp only [Env.putR, argEnv, pure1, newPtr, applyE, hset, List.length_cons, List.length_nil, List.length_append, List.set, List.cons_append, List.nil_append] | rfl))
      | refine ⟨_, _, _, _, _, rfl, rfl, rfl, Fits.mk (by first | exact Nat.le_of_ble_eq_true rfl | (dsimp only; omega)), rfl, ?_⟩
      | refine ⟨_, _, _, _, _, rfl, _, rfl, ?_⟩
      | refine ⟨InB.mk (by first | decide | omega) (by first | decide | omega), ?_⟩
      | fail
    rfl
  | 4, _ => 
    repeat' first
      | (apply Here.norm; (first | dsimp only [Env.putR, argEnv, pure1, newPtr, applyE, hset, List.length_cons, List.length_nil, List.length_append, List.set, List.cons_append, List.nil_append] | rfl); (first | dsimp only [Env.putR, argEnv, pure1, newPtr, applyE, hset, List.length_cons, List.length_nil, List.length_append, List.set, List.cons_append, List.nil_append] | rfl))
      | refine ⟨_, _, _, _, _, rfl, rfl, rfl, Fits.mk (by first | exact Nat.le_of_ble_eq_true rfl | (dsimp only; omega)), rfl, ?_⟩
      | refine ⟨_, _, _, _, _, rfl, _, rfl, ?_⟩
      | refine ⟨InB.mk (by first | decide | omega) (by first | decide | omega), ?_⟩
      | fail
    rfl
  | 5, _ => 
    repeat' first
      | (apply Here.norm; (first | dsimp only [Env.putR, argEnv, pure1, newPtr, applyE, hset, List.length_cons, List.length_nil, List.length_append, List.set, List.cons_append, List.nil_append] | rfl); (first | dsimp only [Env.putR, argEnv, pure1, newPtr, applyE, hset, List.length_cons, List.length_nil, List.length_append, List.set, List.cons_append, List.nil_append] | rfl))
      | refine ⟨_, _, _, _, _, rfl, rfl, rfl, Fits.mk (by first | exact Nat.le_of_ble_eq_true rfl | (dsimp only; omega)), rfl, ?_⟩
      | refine ⟨_, _, _, _, _, rfl, _, rfl, ?_⟩
      | refine ⟨InB.mk (by first | decide | omega) (by first | decide | omega), ?_⟩
      | fail
    rfl
  | 6, _ => 
    repeat' first
      | (apply Here.norm; (first | dsimp only [Env.putR, argEnv, pure1, newPtr, applyE, hset, List.length_cons, List.length_nil, List.length_append, List.set, List.cons_append, List.nil_append] | rfl); (first | dsimp only [Env.putR, argEnv, pure1, newPtr, applyE, hset, List.length_cons, List.length_nil, List.length_append, List.set, List.cons_append, List.nil_append] | rfl))
      | refine ⟨_, _, _, _, _, rfl, rfl, rfl, Fits.mk (by first | exact Nat.le_of_ble_eq_true rfl | (dsimp only; omega)), rfl, ?_⟩
      | refine ⟨_, _, _, _, _, rfl, _, rfl, ?_⟩
      | refine ⟨InB.mk (by first | decide | omega) (by first | decide | omega), ?_⟩
      | fail
    rfl
  | n + 7, h => exact absurd h (by omega)
theorem ten_le6 {n : Nat} (h : n ≤ 6) : 10 ^ n ≤ 1000000 := by
  match n, h with
  | 0, _ => decide
  | 1, _ => decide
  | 2, _ => decide
  | 3, _ => decide
  | 4, _ => decide
  | 5, _ => decide
  | 6, _ => decide
  | n + 7, h => exact absurd h (by omega)
theorem sgv_mul (b : Bool) (n m : Nat) : sgv b n * (m : Int) = sgv b (n * m) := by
  unfold sgv
  cases b
  · simp
  · simp [Int.neg_mul]
theorem wenc_mono {b : Bool} {n m : Nat} (h : n ≤ m) (ho : ¬ R (sgv b n)) : wenc (sgv b m) = (0, 10) := by
  refine wenc_out ?_
  unfold R sgv at *
  cases b
  · simp only [Bool.false_eq_true, if_false] at *; omega
  · simp only [if_true] at *; omega
set_option maxHeartbeats 4000000 in
theorem sgv_zero (b : Bool) : sgv b (decVal []) = 0 := by cases b <;> rfl
attribute [local irreducible] sgv
set_option maxHeartbeats 4000000 in
theorem micro_worth (b : Bool) (D : List UInt8) (n : Nat) (hD : ∀ c ∈ D, 48 ≤ c.toNat ∧ c.toNat ≤ 57) (hs : D.length ≤ 1048576) (hn : n ≤ 6) :
    PureF (C W0) I.micro_decimal_worth [.agg #[.bool b, .string (bs D), .int .i64 ((6 - n : Nat) : Int)]] (wev (sgv b (decVal D * 10 ^ n))) := by
  have hsz := bs_size D
  have tn := micro_tens (W0 := W0) n hn
  have t0 := ten_le6 hn
  have p1 : 1 ≤ 10 ^ n := Nat.one_le_pow _ _ (by decide)
  generalize 10 ^ n = T at *
  have of10 := wide_Of (W0 := W0) 10 (by decide)
  refine PureF.E (CallP.of_body (C_ok W0) B.micro_decimal_worth rfl rfl rfl ?_)
  repeat' first
    | refine (of10).call ?_
    | (apply Here.norm; (first | dsimp only [Env.putR, argEnv, pure1, newPtr, applyE, hset, List.length_cons, List.length_nil, List.length_append, List.set, List.cons_append, List.nil_append] | rfl); (first | dsimp only [Env.putR, argEnv, pure1, newPtr, applyE, hset, List.length_cons, List.length_nil, List.length_append, List.set, List.cons_append, List.nil_append] | rfl))
    | refine ⟨_, _, _, _, _, rfl, rfl, rfl, Fits.mk (by first | exact Nat.le_of_ble_eq_true rfl | (dsimp only; omega)), rfl, ?_⟩
    | fail
  refine loop_I (C_ok W0) (fun i : Nat => i ≤ D.length ∧ R (sgv b (decVal (D.take i))))
    (fun i => [(1, .pointer (some ⟨0, 0, none⟩)), (2, .pointer (some ⟨1, 0, none⟩)), (3, .int .i64 0), (4, .pointer (some ⟨2, 0, none⟩)), (5, .pointer (some ⟨3, 0, none⟩)), (6, .int .i64 0), (7, .int .i64 i)])
    (fun i => [.cells [.bool b, .string (bs D), .int .i64 ((6 - n : Nat) : Int)] 1 true false Y.micro_decimal, .cells (wv 0).cells.toList 1 true false Y.api_Wide, .cells (wv 10).cells.toList 1 true false Y.api_Wide, .cells (wv (sgv b (decVal (D.take i)))).cells.toList 1 true false Y.api_Wide])
    (fun i => D.length - i) 0 ⟨Nat.zero_le _, by rw [List.take_zero, sgv_zero]; decide⟩ ⟨_, rfl, RT.of_eq ?_ ?_⟩ ?_
  · rfl
  · have z : sgv b (decVal (D.take 0)) = 0 := by rw [List.take_zero, sgv_zero]
    rw [z]; rfl
  rintro i ⟨g1, g2⟩
  dsimp only
  have ml := wide_Mul (W0 := W0) (sgv b (decVal (D.take i))) 10 g2 (by decide)
  by_cases hi : i < D.length
  · have dg := hD _ (List.getElem_mem hi)
    have ts := decVal_take_succ D i hi
    have le := decVal_take_le D (i + 1)
    have le2 : decVal D ≤ decVal D * T := Nat.le_mul_of_pos_right _ p1
    have eb := byteAt_bs hi
    have ec : IntKind.i64.wrap (IntKind.u8.wrap (byteAt (bs D) (i : Int) - 48)) = (((D[i]'hi).toNat - 48 : Nat) : Int) := by
      rw [eb, show IntKind.u8.wrap (((D[i]'hi).toNat : Int) - 48) = (((D[i]'hi).toNat : Int) - 48) % 256 by simp [IntKind.wrap, IntKind.bits, IntKind.signed], wrap_in (by omega)]; omega
    have of := wide_Of (W0 := W0) (IntKind.i64.wrap (IntKind.u8.wrap (byteAt (bs D) (i : Int) - 48))) (by rw [ec]; unfold Hi; omega)
    have rc : R (IntKind.i64.wrap (IntKind.u8.wrap (byteAt (bs D) (i : Int) - 48))) := by rw [ec]; unfold R; omega
    have w1 : IntKind.i64.wrap ((i : Int) + 1) = ((i + 1 : Nat) : Int) := by rw [wrap_in (by omega)]; omega
    by_cases o1 : R (sgv b (decVal (D.take i)) * 10)
    · have sb := wide_Sub (W0 := W0) _ _ o1 rc
      have ad := wide_Add (W0 := W0) _ _ o1 rc
      rw [wev, wenc_in o1] at ml
      have m10 : sgv b (decVal (D.take i)) * 10 = sgv b (decVal (D.take i) * 10) := sgv_mul b _ 10
      cases b with
      | true =>
        have es : sgv true (decVal (D.take i)) * 10 - IntKind.i64.wrap (IntKind.u8.wrap (byteAt (bs D) (i : Int) - 48)) = sgv true (decVal (D.take (i + 1))) := by
          rw [ec, m10, ts]; unfold sgv; simp only [if_true]; omega
        rw [es] at sb
        by_cases o2 : R (sgv true (decVal (D.take (i + 1))))
        · rw [wev, wenc_in o2] at sb
          repeat' first
            | refine brP.tD (by omega) ?_
            | refine (ml).call ?_
            | refine (of).call ?_
            | refine (sb).call ?_
            | (apply Here.norm; (first | dsimp only [Env.putR, argEnv, pure1, newPtr, applyE, hset, List.length_cons, List.length_nil, List.length_append, List.set, List.cons_append, List.nil_append] | rfl); (first | dsimp only [Env.putR, argEnv, pure1, newPtr, applyE, hset, List.length_cons, List.length_nil, List.length_append, List.set, List.cons_append, List.nil_append] | rfl))
            | refine ⟨_, _, _, _, _, rfl, rfl, rfl, Fits.mk (by first | exact Nat.le_of_ble_eq_true rfl | (dsimp only; omega)), rfl, ?_⟩
            | refine ⟨_, _, _, _, _, rfl, _, rfl, ?_⟩
            | refine ⟨_, _, _, _, _, rfl, Fits.mk (by first | exact Nat.le_of_ble_eq_true rfl | (dsimp only; omega)), _, rfl, ?_⟩
            | refine ⟨InB.mk (by first | decide | omega) (by first | decide | omega), ?_⟩
            | refine ⟨by decide, ?_⟩
            | refine ⟨_, rfl, ?_⟩
            | fail
          apply Again.mk (i + 1)
          · exact ⟨by omega, o2⟩
          · omega
          refine ⟨_, rfl, ?_⟩
          refine RT.ren [0, 1, 2, 3] rfl rfl ?_ ?_
          all_goals (repeat' first
            | exact trivial
            | exact LTo.nil
            | refine ⟨⟨_, rfl, ?_, (fun z => by cases z)⟩, ?_⟩
            | refine BTo.cells (fun z => z) ?_
            | exact VTo.ptr (by decide)
            | refine LTo.cons ?_ ?_
            | refine VTo.int ?_
            | refine VTo.bool ?_
            | refine VTo.string ?_
            | (with_reducible rfl)
            | fail)
          all_goals first
            | exact w1
            | rfl
        · have fin := wenc_mono (b := true) (n := decVal (D.take (i + 1))) (m := decVal D * T) (by omega) o2
          rw [wev, wenc_out o2] at sb
          rw [show wev (sgv true (decVal D * T)) = .tuple #[wv 0, .int .i64 10] by rw [wev, fin]]
          repeat' first
            | refine brP.tD (by omega) ?_
            | refine (ml).call ?_
            | refine (of).call ?_
            | refine (sb).call ?_
            | (apply Here.norm; (first | dsimp only [Env.putR, argEnv, pure1, newPtr, applyE, hset, List.length_cons, List.length_nil, List.length_append, List.set, List.cons_append, List.nil_append] | rfl); (first | dsimp only [Env.putR, argEnv, pure1, newPtr, applyE, hset, List.length_cons, List.length_nil, List.length_append, List.set, List.cons_append, List.nil_append] | rfl))
            | refine ⟨_, _, _, _, _, rfl, rfl, rfl, Fits.mk (by first | exact Nat.le_of_ble_eq_true rfl | (dsimp only; omega)), rfl, ?_⟩
            | refine ⟨_, _, _, _, _, rfl, _, rfl, ?_⟩
            | refine ⟨_, _, _, _, _, rfl, Fits.mk (by first | exact Nat.le_of_ble_eq_true rfl | (dsimp only; omega)), _, rfl, ?_⟩
            | refine ⟨InB.mk (by first | decide | omega) (by first | decide | omega), ?_⟩
            | refine ⟨by decide, ?_⟩
            | refine ⟨_, rfl, ?_⟩
            | fail
          rfl
      | false =>
        have es : sgv false (decVal (D.take i)) * 10 + IntKind.i64.wrap (IntKind.u8.wrap (byteAt (bs D) (i : Int) - 48)) = sgv false (decVal (D.take (i + 1))) := by
          rw [ec, m10, ts]; unfold sgv; simp only [Bool.false_eq_true, if_false]; omega
        rw [es] at ad
        by_cases o2 : R (sgv false (decVal (D.take (i + 1))))
        · rw [wev, wenc_in o2] at ad
          repeat' first
            | refine brP.tD (by omega) ?_
            | refine (ml).call ?_
            | refine (of).call ?_
            | refine (ad).call ?_
            | (apply Here.norm; (first | dsimp only [Env.putR, argEnv, pure1, newPtr, applyE, hset, List.length_cons, List.length_nil, List.length_append, List.set, List.cons_append, List.nil_append] | rfl); (first | dsimp only [Env.putR, argEnv, pure1, newPtr, applyE, hset, List.length_cons, List.length_nil, List.length_append, List.set, List.cons_append, List.nil_append] | rfl))
            | refine ⟨_, _, _, _, _, rfl, rfl, rfl, Fits.mk (by first | exact Nat.le_of_ble_eq_true rfl | (dsimp only; omega)), rfl, ?_⟩
            | refine ⟨_, _, _, _, _, rfl, _, rfl, ?_⟩
            | refine ⟨_, _, _, _, _, rfl, Fits.mk (by first | exact Nat.le_of_ble_eq_true rfl | (dsimp only; omega)), _, rfl, ?_⟩
            | refine ⟨InB.mk (by first | decide | omega) (by first | decide | omega), ?_⟩
            | refine ⟨by decide, ?_⟩
            | refine ⟨_, rfl, ?_⟩
            | fail
          apply Again.mk (i + 1)
          · exact ⟨by omega, o2⟩
          · omega
          refine ⟨_, rfl, ?_⟩
          refine RT.ren [0, 1, 2, 3] rfl rfl ?_ ?_
          all_goals (repeat' first
            | exact trivial
            | exact LTo.nil
            | refine ⟨⟨_, rfl, ?_, (fun z => by cases z)⟩, ?_⟩
            | refine BTo.cells (fun z => z) ?_
            | exact VTo.ptr (by decide)
            | refine LTo.cons ?_ ?_
            | refine VTo.int ?_
            | refine VTo.bool ?_
            | refine VTo.string ?_
            | (with_reducible rfl)
            | fail)
          all_goals first
            | exact w1
            | rfl
        · have fin := wenc_mono (b := false) (n := decVal (D.take (i + 1))) (m := decVal D * T) (by omega) o2
          rw [wev, wenc_out o2] at ad
          rw [show wev (sgv false (decVal D * T)) = .tuple #[wv 0, .int .i64 10] by rw [wev, fin]]
          repeat' first
            | refine brP.tD (by omega) ?_
            | refine (ml).call ?_
            | refine (of).call ?_
            | refine (ad).call ?_
            | (apply Here.norm; (first | dsimp only [Env.putR, argEnv, pure1, newPtr, applyE, hset, List.length_cons, List.length_nil, List.length_append, List.set, List.cons_append, List.nil_append] | rfl); (first | dsimp only [Env.putR, argEnv, pure1, newPtr, applyE, hset, List.length_cons, List.length_nil, List.length_append, List.set, List.cons_append, List.nil_append] | rfl))
            | refine ⟨_, _, _, _, _, rfl, rfl, rfl, Fits.mk (by first | exact Nat.le_of_ble_eq_true rfl | (dsimp only; omega)), rfl, ?_⟩
            | refine ⟨_, _, _, _, _, rfl, _, rfl, ?_⟩
            | refine ⟨_, _, _, _, _, rfl, Fits.mk (by first | exact Nat.le_of_ble_eq_true rfl | (dsimp only; omega)), _, rfl, ?_⟩
            | refine ⟨InB.mk (by first | decide | omega) (by first | decide | omega), ?_⟩
            | refine ⟨by decide, ?_⟩
            | refine ⟨_, rfl, ?_⟩
            | fail
          rfl
    · have m10 : sgv b (decVal (D.take i)) * 10 = sgv b (decVal (D.take i) * 10) := sgv_mul b _ 10
      have fin := wenc_mono (b := b) (n := decVal (D.take i) * 10) (m := decVal D * T) (by omega) (by rw [← m10]; exact o1)
      rw [wev, wenc_out o1] at ml
      rw [show wev (sgv b (decVal D * T)) = .tuple #[wv 0, .int .i64 10] by rw [wev, fin]]
      repeat' first
        | refine brP.tD (by omega) ?_
        | refine (ml).call ?_
        | (apply Here.norm; (first | dsimp only [Env.putR, argEnv, pure1, newPtr, applyE, hset, List.length_cons, List.length_nil, List.length_append, List.set, List.cons_append, List.nil_append] | rfl); (first | dsimp only [Env.putR, argEnv, pure1, newPtr, applyE, hset, List.length_cons, List.length_nil, List.length_append, List.set, List.cons_append, List.nil_append] | rfl))
        | refine ⟨_, _, _, _, _, rfl, rfl, rfl, Fits.mk (by first | exact Nat.le_of_ble_eq_true rfl | (dsimp only; omega)), rfl, ?_⟩
        | refine ⟨_, _, _, _, _, rfl, _, rfl, ?_⟩
        | refine ⟨_, _, _, _, _, rfl, Fits.mk (by first | exact Nat.le_of_ble_eq_true rfl | (dsimp only; omega)), _, rfl, ?_⟩
        | refine ⟨by decide, ?_⟩
        | refine ⟨_, rfl, ?_⟩
        | fail
      rfl
  · have hil : i = D.length := by omega
    have e6 : IntKind.i64.wrap (6 - ((6 - n : Nat) : Int)) = (n : Int) := by rw [wrap_in (by omega)]; omega
    rw [← e6] at tn
    have ed : D.take i = D := List.take_of_length_le (by omega)
    rw [ed] at g2 ml ⊢
    have ot := wide_Of (W0 := W0) (T : Int) (by unfold Hi; omega)
    have mt := wide_Mul (W0 := W0) (sgv b (decVal D)) (T : Int) g2 (by unfold R; omega)
    rw [sgv_mul] at mt
    repeat' first
      | refine brP.fD (by omega) ?_
      | refine .inl ⟨_, tn, ?_⟩
      | refine .inl ⟨_, ot, ?_⟩
      | refine .inl ⟨_, mt, ?_⟩
      | (apply Here.norm; (first | dsimp only [Env.putR, argEnv, pure1, newPtr, applyE, hset, List.length_cons, List.length_nil, List.length_append, List.set, List.cons_append, List.nil_append] | rfl); (first | dsimp only [Env.putR, argEnv, pure1, newPtr, applyE, hset, List.length_cons, List.length_nil, List.length_append, List.set, List.cons_append, List.nil_append] | rfl))
      | refine ⟨_, _, _, _, _, rfl, rfl, rfl, Fits.mk (by first | exact Nat.le_of_ble_eq_true rfl | (dsimp only; omega)), rfl, ?_⟩
      | refine ⟨_, _, _, _, _, rfl, _, rfl, ?_⟩
      | refine ⟨_, _, _, _, _, rfl, Fits.mk (by first | exact Nat.le_of_ble_eq_true rfl | (dsimp only; omega)), _, rfl, ?_⟩
      | refine draw_go (C_ok W0) (by kernel_rfl) ?_
      | refine ⟨cpt_ok (by kernel_rfl), ?_⟩
      | refine ⟨by decide, ?_⟩
      | refine ⟨_, rfl, ?_⟩
      | fail
    rfl
end Go.Proofs.YtioahngbfdfcaaaDoor
