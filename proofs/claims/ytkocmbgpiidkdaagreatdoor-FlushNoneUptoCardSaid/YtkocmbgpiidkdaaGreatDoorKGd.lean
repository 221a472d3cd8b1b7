import Derived.Test.YtkocmbgpiidkdaaGreatDoorKGc
set_option linter.unusedVariables false
set_option linter.unusedSimpArgs false
namespace Go.Proofs.YtkocmbgpiidkdaaGreatDoor
open Go Go.Den Go.RowKit
variable {W0 : World}
/-! FlushNone -/
attribute [local irreducible] quo3 beginV
abbrev flV (p : List UInt8) (ps qs : List Int) : Value := .agg #[.string (bs p), LV (icells ps) ps.length, LV (icells qs) qs.length]
set_option maxRecDepth 20000 in
set_option maxHeartbeats 16000000 in
theorem records_none (id w : Int) (p : List UInt8) (ps qs : List Int) (c : Int) (ck : PureF (C W0) I.flush_Check [flV p ps qs] (.int .i64 c)) :
    PureF (C W0) I.flush_Records [.agg #[.int .i64 id, .slice none 0 0], .int .i64 w, flV p ps qs] (.tuple #[.slice none 0 0, .int .i64 (if c = 0 then (beginV id w).2 else c)]) := by
  have bg := window_Begin (W0 := W0) id w
  refine PureF.E (CallP.of_body (C_ok W0) B.flush_Records rfl rfl rfl ?_)
  by_cases h : c = 0
  · subst h
    rw [if_pos rfl]
    generalize beginV id w = z at *
    obtain ⟨t, e⟩ := z
    dsimp only at bg ⊢
    by_cases h2 : e = 0
    · subst h2
      repeat' first
        | refine loop_N (C_ok W0) 4 ?_
        | refine rounds_s ?_
        | refine (ck).call ?_
        | refine (bg).call ?_
        | refine (CallP.of_body (C_ok W0) B.flush_ways rfl rfl rfl ?_)
        | refine (CallP.of_body (C_ok W0) B.slices_SortFunc_api_Record_api_Record rfl rfl rfl ?_)
        | refine (CallP.of_body (C_ok W0) B.slices_pdqsortCmpFunc_api_Record rfl rfl rfl ?_)
        | refine (CallP.of_body (C_ok W0) B.slices_insertionSortCmpFunc_api_Record rfl rfl rfl ?_)
        | refine (CallP.of_body (C_ok W0) B.math_bits_Len rfl rfl rfl ?_)
        | refine (CallP.of_body (C_ok W0) B.math_bits_Len64 rfl rfl rfl ?_)
        | (refine ⟨rfl, _, _, _, rfl, rfl, ?_⟩; dsimp only [lookV, updM])
        | (apply Here.norm; (first | dsimp only [Env.putR, argEnv, pure1, newPtr, applyE, hset, List.length_cons, List.length_nil, List.length_append, List.set, List.cons_append, List.nil_append] | rfl); (first | dsimp only [Env.putR, argEnv, pure1, newPtr, applyE, hset, List.length_cons, List.length_nil, List.length_append, List.set, List.cons_append, List.nil_append] | rfl))
        | refine ⟨_, _, _, _, _, rfl, _, rfl, ?_⟩
        | refine ⟨_, _, _, _, _, rfl, Fits.mk (by first | exact Nat.le_of_ble_eq_true rfl | (dsimp only; omega)), _, rfl, ?_⟩
        | refine ⟨InB.mk (by first | decide | omega) (by first | decide | omega), ?_⟩
        | refine ⟨by decide, ?_⟩
        | refine ⟨_, rfl, ?_⟩
        | fail
      rfl
    ·
      repeat' first
        | refine brP.tN (by omega) ?_
        | refine (ck).call ?_
        | refine (bg).call ?_
        | (apply Here.norm; (first | dsimp only [Env.putR, argEnv, pure1, newPtr, applyE, hset, List.length_cons, List.length_nil, List.length_append, List.set, List.cons_append, List.nil_append] | rfl); (first | dsimp only [Env.putR, argEnv, pure1, newPtr, applyE, hset, List.length_cons, List.length_nil, List.length_append, List.set, List.cons_append, List.nil_append] | rfl))
        | refine ⟨_, _, _, _, _, rfl, _, rfl, ?_⟩
        | refine ⟨_, _, _, _, _, rfl, Fits.mk (by first | exact Nat.le_of_ble_eq_true rfl | (dsimp only; omega)), _, rfl, ?_⟩
        | refine ⟨by decide, ?_⟩
        | refine ⟨_, rfl, ?_⟩
        | fail
      rfl
  · rw [if_neg h]
    repeat' first
      | refine brP.tN (by omega) ?_
      | refine (ck).call ?_
      | (apply Here.norm; (first | dsimp only [Env.putR, argEnv, pure1, newPtr, applyE, hset, List.length_cons, List.length_nil, List.length_append, List.set, List.cons_append, List.nil_append] | rfl); (first | dsimp only [Env.putR, argEnv, pure1, newPtr, applyE, hset, List.length_cons, List.length_nil, List.length_append, List.set, List.cons_append, List.nil_append] | rfl))
      | refine ⟨_, _, _, _, _, rfl, Fits.mk (by first | exact Nat.le_of_ble_eq_true rfl | (dsimp only; omega)), _, rfl, ?_⟩
      | fail
    rfl
set_option maxRecDepth 20000 in
set_option maxHeartbeats 16000000 in
theorem flushNone (hW : WF W0) (id w : Int) (p : List UInt8) (ps qs : List Int) (hp : p.length ≤ 1048576) (h1 : ps.length ≤ 1048576) (h2 : qs.length ≤ 1048576) :
    PureF (C W0) I.tumblerlaw10_FlushNone [.int .i64 id, .int .i64 w, flV p ps qs] (.bool true) := by
  obtain ⟨c, hc, ck⟩ := flush_Check hW p ps qs hp h1 h2
  have rn := records_none (W0 := W0) id w p ps qs c ck
  have aw := flush_awake hW
  have bg := window_Begin (W0 := W0) id w
  refine PureF.E (CallP.of_body (C_ok W0) B.tumblerlaw10_FlushNone rfl rfl rfl ?_)
  generalize beginV id w = z at *
  obtain ⟨t, e⟩ := z
  dsimp only at bg rn ⊢
  rcases hc with rfl | rfl
  · rw [if_pos rfl] at rn
    repeat' first
      | refine (aw).call ?_
      | refine (ck).call ?_
      | refine (bg).call ?_
      | refine (rn).call ?_
      | (apply Here.norm; (first | dsimp only [Env.putR, argEnv, pure1, newPtr, applyE, hset, List.length_cons, List.length_nil, List.length_append, List.set, List.cons_append, List.nil_append] | rfl); (first | dsimp only [Env.putR, argEnv, pure1, newPtr, applyE, hset, List.length_cons, List.length_nil, List.length_append, List.set, List.cons_append, List.nil_append] | rfl))
      | refine ⟨_, _, _, _, _, rfl, Fits.mk (by first | exact Nat.le_of_ble_eq_true rfl | (dsimp only; omega)), _, rfl, ?_⟩
      | refine ⟨_, rfl, ?_⟩
      | fail
    exact congrArg Value.bool (decide_eq_true rfl)
  · rw [if_neg (by decide)] at rn
    repeat' first
      | refine (aw).call ?_
      | refine (ck).call ?_
      | refine (rn).call ?_
      | (apply Here.norm; (first | dsimp only [Env.putR, argEnv, pure1, newPtr, applyE, hset, List.length_cons, List.length_nil, List.length_append, List.set, List.cons_append, List.nil_append] | rfl); (first | dsimp only [Env.putR, argEnv, pure1, newPtr, applyE, hset, List.length_cons, List.length_nil, List.length_append, List.set, List.cons_append, List.nil_append] | rfl))
      | refine ⟨_, _, _, _, _, rfl, Fits.mk (by first | exact Nat.le_of_ble_eq_true rfl | (dsimp only; omega)), _, rfl, ?_⟩
      | refine ⟨_, rfl, ?_⟩
      | fail
    rfl
end Go.Proofs.YtkocmbgpiidkdaaGreatDoor
