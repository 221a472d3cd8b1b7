import Derived.Test.YtioahngbfdfcaaaDoorKMw
set_option linter.unusedVariables false
set_option linter.unusedSimpArgs false
namespace Go.Proofs.YtioahngbfdfcaaaDoor
open Go Go.Den Go.RowKit
variable {W0 : World}
theorem sgv_abs' (b : Bool) (n : Nat) : (sgv b n).natAbs = n := by unfold sgv; split <;> omega
attribute [local irreducible] sgv valOf decVal
set_option maxHeartbeats 2000000 in
theorem micro_Parse (l : List UInt8) (hl : l.length ≤ 1048576) : PureF (C W0) I.micro_Parse [.string (bs l)] (.tuple #[.int .i64 (parseV l).1, .int .i64 (parseV l).2]) := by
  have hcl := cutm_len l
  have rd := fun R hR => micro_read (W0 := W0) l hl R hR
  refine PureF.E (CallP.of_body (C_ok W0) B.micro_Parse rfl rfl rfl ?_)
  rw [rd_is] at rd
  unfold parseV decOf
  cases hT : decT (cutm l).1 with
  | none =>
    rw [hT] at rd
    have rd := rd _ rfl
    simp only [readR] at rd
    simp only [Option.map_none]
    repeat' first
      | refine (rd).call ?_
      | (apply Here.norm; (first | dsimp only [Env.putR, argEnv, pure1, newPtr, applyE, hset, List.length_cons, List.length_nil, List.length_append, List.set, List.cons_append, List.nil_append] | rfl); (first | dsimp only [Env.putR, argEnv, pure1, newPtr, applyE, hset, List.length_cons, List.length_nil, List.length_append, List.set, List.cons_append, List.nil_append] | rfl))
      | refine ⟨_, _, _, _, _, rfl, rfl, rfl, Fits.mk (by first | exact Nat.le_of_ble_eq_true rfl | (dsimp only; omega)), rfl, ?_⟩
      | refine ⟨_, rfl, ?_⟩
      | fail
    rfl
  | some p =>
    obtain ⟨W, F⟩ := p
    obtain ⟨dW, dF, w0, len⟩ := decT_parts hT
    have wl : W.length ≤ 1048576 := by omega
    rw [hT] at rd
    have rd := rd _ rfl
    simp only [readR] at rd
    simp only [Option.map_some]
    by_cases c6 : 6 < F.length
    · rw [if_pos c6]
      repeat' first
        | refine brP.tD (by omega) ?_
        | refine (rd).call ?_
        | (apply Here.norm; (first | dsimp only [Env.putR, argEnv, pure1, newPtr, applyE, hset, List.length_cons, List.length_nil, List.length_append, List.set, List.cons_append, List.nil_append] | rfl); (first | dsimp only [Env.putR, argEnv, pure1, newPtr, applyE, hset, List.length_cons, List.length_nil, List.length_append, List.set, List.cons_append, List.nil_append] | rfl))
        | refine ⟨_, _, _, _, _, rfl, rfl, rfl, Fits.mk (by first | exact Nat.le_of_ble_eq_true rfl | (dsimp only; omega)), rfl, ?_⟩
        | refine ⟨_, _, _, _, _, rfl, _, rfl, ?_⟩
        | refine ⟨by decide, ?_⟩
        | refine ⟨_, rfl, ?_⟩
        | fail
      rfl
    · rw [if_neg c6]
      have wo := micro_worth (W0 := W0) (cutm l).2 (W ++ F) (6 - F.length) (app_dig dW dF) (by rw [List.length_append]; split at len <;> simp_all <;> omega) (by omega)
      rw [show 6 - (6 - F.length) = F.length by omega, show decVal (W ++ F) * 10 ^ (6 - F.length) = valOf W F by unfold valOf; rfl] at wo
      have hab := sgv_abs' (cutm l).2 (valOf W F)
      by_cases r : R (sgv (cutm l).2 (valOf W F))
      · rw [wev, wenc_in r] at wo
        have sm := wide_Small (W0 := W0) _ r
        by_cases h : Hi (sgv (cutm l).2 (valOf W F))
        · rw [if_pos h, decide_eq_true h] at sm
          by_cases c : valOf W F ≤ 1000000000000000
          · rw [if_pos c]
            generalize sgv (cutm l).2 (valOf W F) = N at *
            repeat' first
              | refine brP.fD (by omega) ?_
              | refine (rd).call ?_
              | refine (wo).call ?_
              | refine (sm).call ?_
              | (apply Here.norm; (first | dsimp only [Env.putR, argEnv, pure1, newPtr, applyE, hset, List.length_cons, List.length_nil, List.length_append, List.set, List.cons_append, List.nil_append] | rfl); (first | dsimp only [Env.putR, argEnv, pure1, newPtr, applyE, hset, List.length_cons, List.length_nil, List.length_append, List.set, List.cons_append, List.nil_append] | rfl))
              | refine ⟨_, _, _, _, _, rfl, rfl, rfl, Fits.mk (by first | exact Nat.le_of_ble_eq_true rfl | (dsimp only; omega)), rfl, ?_⟩
              | refine ⟨_, _, _, _, _, rfl, _, rfl, ?_⟩
              | refine ⟨_, _, _, _, _, rfl, Fits.mk (by first | exact Nat.le_of_ble_eq_true rfl | (dsimp only; omega)), _, rfl, ?_⟩
              | refine ⟨by decide, ?_⟩
              | refine ⟨_, rfl, ?_⟩
              | fail
            rfl
          · rw [if_neg c]
            generalize sgv (cutm l).2 (valOf W F) = N at *
            by_cases c2 : 0 ≤ N
            ·
              repeat' first
                | refine brP.tD (by omega) ?_
                | refine brP.fD (by omega) ?_
                | refine (rd).call ?_
                | refine (wo).call ?_
                | refine (sm).call ?_
                | (apply Here.norm; (first | dsimp only [Env.putR, argEnv, pure1, newPtr, applyE, hset, List.length_cons, List.length_nil, List.length_append, List.set, List.cons_append, List.nil_append] | rfl); (first | dsimp only [Env.putR, argEnv, pure1, newPtr, applyE, hset, List.length_cons, List.length_nil, List.length_append, List.set, List.cons_append, List.nil_append] | rfl))
                | refine ⟨_, _, _, _, _, rfl, rfl, rfl, Fits.mk (by first | exact Nat.le_of_ble_eq_true rfl | (dsimp only; omega)), rfl, ?_⟩
                | refine ⟨_, _, _, _, _, rfl, _, rfl, ?_⟩
                | refine ⟨_, _, _, _, _, rfl, Fits.mk (by first | exact Nat.le_of_ble_eq_true rfl | (dsimp only; omega)), _, rfl, ?_⟩
                | refine ⟨by decide, ?_⟩
                | refine ⟨_, rfl, ?_⟩
                | fail
              rfl
            ·
              repeat' first
                | refine brP.tD (by omega) ?_
                | refine brP.fD (by omega) ?_
                | refine (rd).call ?_
                | refine (wo).call ?_
                | refine (sm).call ?_
                | (apply Here.norm; (first | dsimp only [Env.putR, argEnv, pure1, newPtr, applyE, hset, List.length_cons, List.length_nil, List.length_append, List.set, List.cons_append, List.nil_append] | rfl); (first | dsimp only [Env.putR, argEnv, pure1, newPtr, applyE, hset, List.length_cons, List.length_nil, List.length_append, List.set, List.cons_append, List.nil_append] | rfl))
                | refine ⟨_, _, _, _, _, rfl, rfl, rfl, Fits.mk (by first | exact Nat.le_of_ble_eq_true rfl | (dsimp only; omega)), rfl, ?_⟩
                | refine ⟨_, _, _, _, _, rfl, _, rfl, ?_⟩
                | refine ⟨_, _, _, _, _, rfl, Fits.mk (by first | exact Nat.le_of_ble_eq_true rfl | (dsimp only; omega)), _, rfl, ?_⟩
                | refine ⟨by decide, ?_⟩
                | refine ⟨_, rfl, ?_⟩
                | fail
              rfl
        · rw [if_neg h, decide_eq_false h] at sm
          have c : ¬ valOf W F ≤ 1000000000000000 := fun z => h (by unfold Hi; omega)
          rw [if_neg c]
          repeat' first
            | refine brP.fD (by omega) ?_
            | refine (rd).call ?_
            | refine (wo).call ?_
            | refine (sm).call ?_
            | (apply Here.norm; (first | dsimp only [Env.putR, argEnv, pure1, newPtr, applyE, hset, List.length_cons, List.length_nil, List.length_append, List.set, List.cons_append, List.nil_append] | rfl); (first | dsimp only [Env.putR, argEnv, pure1, newPtr, applyE, hset, List.length_cons, List.length_nil, List.length_append, List.set, List.cons_append, List.nil_append] | rfl))
            | refine ⟨_, _, _, _, _, rfl, rfl, rfl, Fits.mk (by first | exact Nat.le_of_ble_eq_true rfl | (dsimp only; omega)), rfl, ?_⟩
            | refine ⟨_, _, _, _, _, rfl, _, rfl, ?_⟩
            | refine ⟨_, _, _, _, _, rfl, Fits.mk (by first | exact Nat.le_of_ble_eq_true rfl | (dsimp only; omega)), _, rfl, ?_⟩
            | refine ⟨by decide, ?_⟩
            | refine ⟨_, rfl, ?_⟩
            | fail
          rfl
      · rw [wev, wenc_out r] at wo
        have sm := wide_Small (W0 := W0) 0 (by decide)
        rw [if_pos (by decide), decide_eq_true (by decide)] at sm
        have c : ¬ valOf W F ≤ 1000000000000000 := fun z => r (by unfold R; omega)
        rw [if_neg c]
        repeat' first
          | refine brP.fD (by omega) ?_
          | refine (rd).call ?_
          | refine (wo).call ?_
          | refine (sm).call ?_
          | (apply Here.norm; (first | dsimp only [Env.putR, argEnv, pure1, newPtr, applyE, hset, List.length_cons, List.length_nil, List.length_append, List.set, List.cons_append, List.nil_append] | rfl); (first | dsimp only [Env.putR, argEnv, pure1, newPtr, applyE, hset, List.length_cons, List.length_nil, List.length_append, List.set, List.cons_append, List.nil_append] | rfl))
          | refine ⟨_, _, _, _, _, rfl, rfl, rfl, Fits.mk (by first | exact Nat.le_of_ble_eq_true rfl | (dsimp only; omega)), rfl, ?_⟩
          | refine ⟨_, _, _, _, _, rfl, _, rfl, ?_⟩
          | refine ⟨_, _, _, _, _, rfl, Fits.mk (by first | exact Nat.le_of_ble_eq_true rfl | (dsimp only; omega)), _, rfl, ?_⟩
          | refine ⟨by decide, ?_⟩
          | refine ⟨_, rfl, ?_⟩
          | fail
        rfl
end Go.Proofs.YtioahngbfdfcaaaDoor
