import Derived.Test.YtioahngbfdfcaaaDoorKSc
set_option linter.unusedVariables false
set_option linter.unusedSimpArgs false
namespace Go.Proofs.YtioahngbfdfcaaaDoor
open Go Go.Den Go.RowKit
variable {W0 : World}
/-! tumblerref02: taken, Parse -/
theorem tw_len (l : List UInt8) : (l.takeWhile isd).length ≤ l.length := by
  have := congrArg List.length (take_drop l); rw [List.length_append] at this; omega
theorem takeF_parts (l : List UInt8) : (∀ c ∈ (takeF l).1.2.1, 48 ≤ c.toNat ∧ c.toNat ≤ 57) ∧ (∀ c ∈ (takeF l).1.2.2, 48 ≤ c.toNat ∧ c.toNat ≤ 57) ∧ (takeF l).1.2.1.length ≤ l.length := by
  have c1 := cutm_len l
  have c2 := tw_len (cutm l).1
  have d1 := take_dig (cutm l).1
  unfold takeF
  split
  · exact ⟨by simp, by simp, by simp⟩
  · split
    · exact ⟨d1, by simp, by dsimp only; omega⟩
    · split
      · exact ⟨d1, take_dig _, by dsimp only; omega⟩
      · exact ⟨d1, by simp, by dsimp only; omega⟩
def takenV (l : List UInt8) : Value :=
  if (takeF l).2 = false then .tuple #[mgV 0 false, .bool false, .int .i64 20]
  else if 6 < (takeF l).1.2.2.length then .tuple #[mgV 0 false, .bool false, .int .i64 21]
  else .tuple #[mgV (wst (allT (takeF l).1) 0).1 (wst (allT (takeF l).1) 0).2, .bool (takeF l).1.1, .int .i64 0]
instance {l : List UInt8} : NFv (takenV l) := by unfold takenV; infer_instance
set_option maxRecDepth 20000 in
set_option maxHeartbeats 8000000 in
theorem ref2_taken (l : List UInt8) (hl : l.length ≤ 1048576) : PureF (C W0) I.tumblerref02_taken [.string (bs l)] (takenV l) := by
  have tk := ref2_Take (W0 := W0) l hl
  obtain ⟨d1, d2, d3⟩ := takeF_parts l
  unfold takenV
  unfold tkV at tk
  generalize takeF l = p at *
  obtain ⟨⟨b, W, F⟩, ok⟩ := p
  dsimp only at *
  have s2 := bs_size F
  refine PureF.E (CallP.of_body (C_ok W0) B.tumblerref02_taken rfl rfl rfl ?_)
  cases ok with
  | false =>
    rw [if_pos rfl]
    repeat' first
      | refine (tk).call ?_
      | (apply Here.norm; (first | dsimp only [Env.putR, argEnv, pure1, newPtr, applyE, hset, List.length_cons, List.length_nil, List.length_append, List.set, List.cons_append, List.nil_append] | rfl); (first | dsimp only [Env.putR, argEnv, pure1, newPtr, applyE, hset, List.length_cons, List.length_nil, List.length_append, List.set, List.cons_append, List.nil_append] | rfl))
      | refine ⟨_, _, _, _, _, rfl, rfl, rfl, Fits.mk (by first | exact Nat.le_of_ble_eq_true rfl | (dsimp only; omega)), rfl, ?_⟩
      | refine ⟨_, _, _, _, _, rfl, Fits.mk (by first | exact Nat.le_of_ble_eq_true rfl | (dsimp only; omega)), _, rfl, ?_⟩
      | refine ⟨_, rfl, ?_⟩
      | fail
    rfl
  | true =>
    rw [if_neg (by simp)]
    by_cases h6 : 6 < F.length
    · rw [if_pos h6]
      repeat' first
        | refine brP.tD (by omega) ?_
        | refine (tk).call ?_
        | (apply Here.norm; (first | dsimp only [Env.putR, argEnv, pure1, newPtr, applyE, hset, List.length_cons, List.length_nil, List.length_append, List.set, List.cons_append, List.nil_append] | rfl); (first | dsimp only [Env.putR, argEnv, pure1, newPtr, applyE, hset, List.length_cons, List.length_nil, List.length_append, List.set, List.cons_append, List.nil_append] | rfl))
        | refine ⟨_, _, _, _, _, rfl, rfl, rfl, Fits.mk (by first | exact Nat.le_of_ble_eq_true rfl | (dsimp only; omega)), rfl, ?_⟩
        | refine ⟨_, _, _, _, _, rfl, _, rfl, ?_⟩
        | refine ⟨_, _, _, _, _, rfl, Fits.mk (by first | exact Nat.le_of_ble_eq_true rfl | (dsimp only; omega)), _, rfl, ?_⟩
        | refine ⟨by decide, ?_⟩
        | refine ⟨_, rfl, ?_⟩
        | fail
      rfl
    · rw [if_neg h6]
      have wo := ref2_Worth (W0 := W0) b W F (by omega) (by omega) d1 d2
      repeat' first
        | refine brP.fD (by omega) ?_
        | refine (tk).call ?_
        | refine .inl ⟨_, wo, ?_⟩
        | (apply Here.norm; (first | dsimp only [Env.putR, argEnv, pure1, newPtr, applyE, hset, List.length_cons, List.length_nil, List.length_append, List.set, List.cons_append, List.nil_append] | rfl); (first | dsimp only [Env.putR, argEnv, pure1, newPtr, applyE, hset, List.length_cons, List.length_nil, List.length_append, List.set, List.cons_append, List.nil_append] | rfl))
        | refine ⟨_, _, _, _, _, rfl, rfl, rfl, Fits.mk (by first | exact Nat.le_of_ble_eq_true rfl | (dsimp only; omega)), rfl, ?_⟩
        | refine ⟨_, _, _, _, _, rfl, _, rfl, ?_⟩
        | refine ⟨_, _, _, _, _, rfl, Fits.mk (by first | exact Nat.le_of_ble_eq_true rfl | (dsimp only; omega)), _, rfl, ?_⟩
        | refine draw_go (C_ok W0) (by kernel_rfl) ?_
        | refine ⟨cpt_ok (by kernel_rfl), ?_⟩
        | refine ⟨by decide, ?_⟩
        | refine ⟨_, rfl, ?_⟩
        | fail
      rfl
set_option maxRecDepth 20000 in
set_option maxHeartbeats 8000000 in
theorem ref2_Parse (l : List UInt8) (hl : l.length ≤ 1048576) : PureF (C W0) I.tumblerref02_Parse [.string (bs l)] (.tuple #[.int .i64 (parseV l).1, .int .i64 (parseV l).2]) := by
  have tk := ref2_taken (W0 := W0) l hl
  obtain ⟨d1, d2, d3⟩ := takeF_parts l
  unfold takenV at tk
  unfold parseV
  rw [takeF_dec]
  generalize takeF l = p at *
  obtain ⟨⟨b, W, F⟩, ok⟩ := p
  dsimp only at *
  cases ok with
  | false =>
    rw [if_pos rfl] at tk
    rw [if_neg (by simp)]
    dsimp only
    refine PureF.E (CallP.of_body (C_ok W0) B.tumblerref02_Parse rfl rfl rfl ?_)
    repeat' first
      | refine (tk).call ?_
      | (apply Here.norm; (first | dsimp only [Env.putR, argEnv, pure1, newPtr, applyE, hset, List.length_cons, List.length_nil, List.length_append, List.set, List.cons_append, List.nil_append] | rfl); (first | dsimp only [Env.putR, argEnv, pure1, newPtr, applyE, hset, List.length_cons, List.length_nil, List.length_append, List.set, List.cons_append, List.nil_append] | rfl))
      | refine ⟨_, _, _, _, _, rfl, rfl, rfl, Fits.mk (by first | exact Nat.le_of_ble_eq_true rfl | (dsimp only; omega)), rfl, ?_⟩
      | refine ⟨_, rfl, ?_⟩
      | fail
    rfl
  | true =>
    rw [if_neg (by simp)] at tk
    rw [if_pos rfl]
    dsimp only
    by_cases h6 : 6 < F.length
    · rw [if_pos h6] at tk ⊢
      refine PureF.E (CallP.of_body (C_ok W0) B.tumblerref02_Parse rfl rfl rfl ?_)
      repeat' first
        | refine (tk).call ?_
        | (apply Here.norm; (first | dsimp only [Env.putR, argEnv, pure1, newPtr, applyE, hset, List.length_cons, List.length_nil, List.length_append, List.set, List.cons_append, List.nil_append] | rfl); (first | dsimp only [Env.putR, argEnv, pure1, newPtr, applyE, hset, List.length_cons, List.length_nil, List.length_append, List.set, List.cons_append, List.nil_append] | rfl))
        | refine ⟨_, _, _, _, _, rfl, rfl, rfl, Fits.mk (by first | exact Nat.le_of_ble_eq_true rfl | (dsimp only; omega)), rfl, ?_⟩
        | refine ⟨_, rfl, ?_⟩
        | fail
      rfl
    · rw [if_neg h6] at tk ⊢
      have ws := wst_is (allT (b, W, F)) 0 (app_dig (app_dig d1 d2) (zeros_dig _)) (by unfold tooBig; exact decide_eq_false (by decide))
      have wl := wst_lt (allT (b, W, F)) 0 (Int.le_refl _) (app_dig (app_dig d1 d2) (zeros_dig _)) (by unfold tooBig; exact decide_eq_false (by decide))
      have vz : (allT (b, W, F)).foldl (fun n c => n * 10 + (c.toNat - 48)) 0 = valOf W F := valOf_zeros W F
      rw [vz, show ((0 : Nat) : Int) = 0 from rfl] at ws
      generalize wst (allT (b, W, F)) 0 = w at *
      obtain ⟨A, o⟩ := w
      dsimp only at *
      generalize valOf W F = v at *
      refine PureF.E (CallP.of_body (C_ok W0) B.tumblerref02_Parse rfl rfl rfl ?_)
      rcases ws with ⟨rfl, rfl⟩ | ⟨rfl, hb⟩
      · by_cases hv : v ≤ 1000000000000000
        · rw [if_pos hv]
          have sm := ref2_Small (W0 := W0) (v : Int) b (by omega) (by omega)
          repeat' first
            | refine brP.fD (by omega) ?_
            | refine (tk).call ?_
            | refine (sm).call ?_
            | (apply Here.norm; (first | dsimp only [Env.putR, argEnv, pure1, newPtr, applyE, hset, List.length_cons, List.length_nil, List.length_append, List.set, List.cons_append, List.nil_append] | rfl); (first | dsimp only [Env.putR, argEnv, pure1, newPtr, applyE, hset, List.length_cons, List.length_nil, List.length_append, List.set, List.cons_append, List.nil_append] | rfl))
            | refine ⟨_, _, _, _, _, rfl, rfl, rfl, Fits.mk (by first | exact Nat.le_of_ble_eq_true rfl | (dsimp only; omega)), rfl, ?_⟩
            | refine ⟨_, _, _, _, _, rfl, _, rfl, ?_⟩
            | refine ⟨_, _, _, _, _, rfl, Fits.mk (by first | exact Nat.le_of_ble_eq_true rfl | (dsimp only; omega)), _, rfl, ?_⟩
            | refine ⟨by decide, ?_⟩
            | refine ⟨_, rfl, ?_⟩
            | fail
          rfl
        · rw [if_neg hv]
          by_cases hz : 0 < (v : Int) / 18446744073709551616
          ·
            repeat' first
              | refine brP.tD (by omega) ?_
              | refine (tk).call ?_
              | (apply Here.norm; (first | dsimp only [Env.putR, argEnv, pure1, newPtr, applyE, hset, List.length_cons, List.length_nil, List.length_append, List.set, List.cons_append, List.nil_append] | rfl); (first | dsimp only [Env.putR, argEnv, pure1, newPtr, applyE, hset, List.length_cons, List.length_nil, List.length_append, List.set, List.cons_append, List.nil_append] | rfl))
              | refine ⟨_, _, _, _, _, rfl, rfl, rfl, Fits.mk (by first | exact Nat.le_of_ble_eq_true rfl | (dsimp only; omega)), rfl, ?_⟩
              | refine ⟨_, _, _, _, _, rfl, _, rfl, ?_⟩
              | refine ⟨by decide, ?_⟩
              | refine ⟨_, rfl, ?_⟩
              | fail
            rfl
          · have hy : 1000000000000000 < (v : Int) % 18446744073709551616 := by omega
            repeat' first
              | refine brP.tD (by omega) ?_
              | refine brP.fD (by omega) ?_
              | refine (tk).call ?_
              | (apply Here.norm; (first | dsimp only [Env.putR, argEnv, pure1, newPtr, applyE, hset, List.length_cons, List.length_nil, List.length_append, List.set, List.cons_append, List.nil_append] | rfl); (first | dsimp only [Env.putR, argEnv, pure1, newPtr, applyE, hset, List.length_cons, List.length_nil, List.length_append, List.set, List.cons_append, List.nil_append] | rfl))
              | refine ⟨_, _, _, _, _, rfl, rfl, rfl, Fits.mk (by first | exact Nat.le_of_ble_eq_true rfl | (dsimp only; omega)), rfl, ?_⟩
              | refine ⟨_, _, _, _, _, rfl, _, rfl, ?_⟩
              | refine ⟨by decide, ?_⟩
              | refine ⟨_, rfl, ?_⟩
              | fail
            rfl
      · have hv : ¬ v ≤ 1000000000000000 := by
          have := of_decide_eq_true hb
          omega
        rw [if_neg hv]
        repeat' first
          | refine (tk).call ?_
          | (apply Here.norm; (first | dsimp only [Env.putR, argEnv, pure1, newPtr, applyE, hset, List.length_cons, List.length_nil, List.length_append, List.set, List.cons_append, List.nil_append] | rfl); (first | dsimp only [Env.putR, argEnv, pure1, newPtr, applyE, hset, List.length_cons, List.length_nil, List.length_append, List.set, List.cons_append, List.nil_append] | rfl))
          | refine ⟨_, _, _, _, _, rfl, rfl, rfl, Fits.mk (by first | exact Nat.le_of_ble_eq_true rfl | (dsimp only; omega)), rfl, ?_⟩
          | refine ⟨_, _, _, _, _, rfl, _, rfl, ?_⟩
          | refine ⟨by decide, ?_⟩
          | refine ⟨_, rfl, ?_⟩
          | fail
        rfl
end Go.Proofs.YtioahngbfdfcaaaDoor
