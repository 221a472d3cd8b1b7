import Derived.Test.YtkocmbgpiidkdaaGreatDoorKGa
set_option linter.unusedVariables false
set_option linter.unusedSimpArgs false
namespace Go.Proofs.YtkocmbgpiidkdaaGreatDoor
open Go Go.Den Go.RowKit
variable {W0 : World}
/-! tumblerlaw10: awake -/
theorem rises_nil (k : Int) : PureF (C W0) I.flush_rises [.slice none 0 0, .int .i64 k] (.bool true) := by
  refine PureF.E (CallP.of_body (C_ok W0) B.flush_rises rfl rfl rfl ?_)
  repeat' first
    | refine loop_N (C_ok W0) 2 ?_
    | refine rounds_s ?_
    | (apply Here.norm; (first | dsimp only [Env.putR, argEnv, pure1, newPtr, applyE, hset, List.length_cons, List.length_nil, List.length_append, List.set, List.cons_append, List.nil_append] | rfl); (first | dsimp only [Env.putR, argEnv, pure1, newPtr, applyE, hset, List.length_cons, List.length_nil, List.length_append, List.set, List.cons_append, List.nil_append] | rfl))
    | fail
  rfl
theorem index_nil (k : Int) : PureF (C W0) I.slices_Index_int64_int64 [.slice none 0 0, .int .i64 k] (.int .i64 (-1)) := by
  refine PureF.E (CallP.of_body (C_ok W0) B.slices_Index_int64_int64 rfl rfl rfl ?_)
  repeat' first
    | refine loop_N (C_ok W0) 2 ?_
    | refine rounds_s ?_
    | (apply Here.norm; (first | dsimp only [Env.putR, argEnv, pure1, newPtr, applyE, hset, List.length_cons, List.length_nil, List.length_append, List.set, List.cons_append, List.nil_append] | rfl); (first | dsimp only [Env.putR, argEnv, pure1, newPtr, applyE, hset, List.length_cons, List.length_nil, List.length_append, List.set, List.cons_append, List.nil_append] | rfl))
    | fail
  rfl
theorem contains_nil (k : Int) : PureF (C W0) I.slices_Contains_int64_int64 [.slice none 0 0, .int .i64 k] (.bool false) := by
  have ix := index_nil (W0 := W0) k
  refine PureF.E (CallP.of_body (C_ok W0) B.slices_Contains_int64_int64 rfl rfl rfl ?_)
  repeat' first
    | refine (ix).call ?_
    | (apply Here.norm; (first | dsimp only [Env.putR, argEnv, pure1, newPtr, applyE, hset, List.length_cons, List.length_nil, List.length_append, List.set, List.cons_append, List.nil_append] | rfl); (first | dsimp only [Env.putR, argEnv, pure1, newPtr, applyE, hset, List.length_cons, List.length_nil, List.length_append, List.set, List.cons_append, List.nil_append] | rfl))
    | fail
  rfl
theorem check_nil (hW : WF W0) (p : List UInt8) (hp : p.length ≤ 1048576) (ok : p = [] ∨ okName p = true) : PureF (C W0) I.flush_Check [.agg #[.string (bs p), .slice none 0 0, .slice none 0 0]] (.int .i64 0) := by
  have nv := name_Valid hW p hp
  have r1 := rises_nil (W0 := W0)
  have sc := contains_nil (W0 := W0) 0
  refine PureF.E (CallP.of_body (C_ok W0) B.flush_Check rfl rfl rfl ?_)
  by_cases a0 : p = []
  · have b0 : bs p = ⟨#[]⟩ := bs_nil_iff.mpr a0
    repeat' first
      | refine brP.fN (by omega) ?_
      | refine ((r1 0)).call ?_
      | refine ((r1 (-100000000))).call ?_
      | refine (sc).call ?_
      | (apply Here.norm; (first | dsimp only [Env.putR, argEnv, pure1, newPtr, applyE, hset, List.length_cons, List.length_nil, List.length_append, List.set, List.cons_append, List.nil_append] | rfl); (first | dsimp only [Env.putR, argEnv, pure1, newPtr, applyE, hset, List.length_cons, List.length_nil, List.length_append, List.set, List.cons_append, List.nil_append] | rfl))
      | refine ⟨_, _, _, _, _, rfl, _, rfl, ?_⟩
      | refine ⟨by decide, ?_⟩
      | fail
    rfl
  · have b0 : ¬ bs p = ⟨#[]⟩ := fun z => a0 (bs_nil_iff.mp z)
    rw [ok.resolve_left a0] at nv
    repeat' first
      | refine brP.tN (by omega) ?_
      | refine (nv).call ?_
      | refine ((r1 0)).call ?_
      | refine ((r1 (-100000000))).call ?_
      | refine (sc).call ?_
      | (apply Here.norm; (first | dsimp only [Env.putR, argEnv, pure1, newPtr, applyE, hset, List.length_cons, List.length_nil, List.length_append, List.set, List.cons_append, List.nil_append] | rfl); (first | dsimp only [Env.putR, argEnv, pure1, newPtr, applyE, hset, List.length_cons, List.length_nil, List.length_append, List.set, List.cons_append, List.nil_append] | rfl))
      | refine ⟨_, _, _, _, _, rfl, _, rfl, ?_⟩
      | refine ⟨by decide, ?_⟩
      | fail
    rfl
theorem flush_cmp (p q : ByteArray) (a b c d e f : Int) : PureF (C W0) I.flush_Records_1 [.agg #[.string p, .int .i64 a, .int .u64 b, .int .i64 c], .agg #[.string q, .int .i64 d, .int .u64 e, .int .i64 f]] (.int .i64 (Extern.BytealgCompare.cmp p q)) := by
  refine PureF.E (CallP.of_body (C_ok W0) B.flush_Records_1 rfl rfl rfl ?_)
  repeat' first
    | refine (CallP.of_body (C_ok W0) B.strings_Compare rfl rfl rfl ?_)
    | refine (CallP.of_body (C_ok W0) B.i_bytealg_CompareString rfl rfl rfl ?_)
    | (apply Here.norm; (first | dsimp only [Env.putR, argEnv, pure1, newPtr, applyE, hset, List.length_cons, List.length_nil, List.length_append, List.set, List.cons_append, List.nil_append] | rfl); (first | dsimp only [Env.putR, argEnv, pure1, newPtr, applyE, hset, List.length_cons, List.length_nil, List.length_append, List.set, List.cons_append, List.nil_append] | rfl))
    | refine ⟨_, _, _, _, _, rfl, _, rfl, ?_⟩
    | refine ⟨by decide, ?_⟩
    | fail
  rfl
theorem itoa_1 : PureF (C W0) I.strconv_Itoa [.int .i64 1] (.string (bs [49])) := by
  refine PureF.E (CallP.of_body (C_ok W0) B.strconv_Itoa rfl rfl rfl ?_)
  repeat' first
    | refine (CallP.of_body (C_ok W0) B.i_strconv_Itoa rfl rfl rfl ?_)
    | refine (CallP.of_body (C_ok W0) B.i_strconv_FormatInt rfl rfl rfl ?_)
    | refine (CallP.of_body (C_ok W0) B.i_strconv_small rfl rfl rfl ?_)
    | (apply Here.norm; (first | dsimp only [Env.putR, argEnv, pure1, newPtr, applyE, hset, List.length_cons, List.length_nil, List.length_append, List.set, List.cons_append, List.nil_append] | rfl); (first | dsimp only [Env.putR, argEnv, pure1, newPtr, applyE, hset, List.length_cons, List.length_nil, List.length_append, List.set, List.cons_append, List.nil_append] | rfl))
    | refine ⟨SlB.mk (by first | omega | decide) (by first | omega | decide) (by first | omega | decide), ?_⟩
    | fail
  rfl
theorem itoa_2 : PureF (C W0) I.strconv_Itoa [.int .i64 2] (.string (bs [50])) := by
  refine PureF.E (CallP.of_body (C_ok W0) B.strconv_Itoa rfl rfl rfl ?_)
  repeat' first
    | refine (CallP.of_body (C_ok W0) B.i_strconv_Itoa rfl rfl rfl ?_)
    | refine (CallP.of_body (C_ok W0) B.i_strconv_FormatInt rfl rfl rfl ?_)
    | refine (CallP.of_body (C_ok W0) B.i_strconv_small rfl rfl rfl ?_)
    | (apply Here.norm; (first | dsimp only [Env.putR, argEnv, pure1, newPtr, applyE, hset, List.length_cons, List.length_nil, List.length_append, List.set, List.cons_append, List.nil_append] | rfl); (first | dsimp only [Env.putR, argEnv, pure1, newPtr, applyE, hset, List.length_cons, List.length_nil, List.length_append, List.set, List.cons_append, List.nil_append] | rfl))
    | refine ⟨SlB.mk (by first | omega | decide) (by first | omega | decide) (by first | omega | decide), ?_⟩
    | fail
  rfl
theorem itoa_4 : PureF (C W0) I.strconv_Itoa [.int .i64 4] (.string (bs [52])) := by
  refine PureF.E (CallP.of_body (C_ok W0) B.strconv_Itoa rfl rfl rfl ?_)
  repeat' first
    | refine (CallP.of_body (C_ok W0) B.i_strconv_Itoa rfl rfl rfl ?_)
    | refine (CallP.of_body (C_ok W0) B.i_strconv_FormatInt rfl rfl rfl ?_)
    | refine (CallP.of_body (C_ok W0) B.i_strconv_small rfl rfl rfl ?_)
    | (apply Here.norm; (first | dsimp only [Env.putR, argEnv, pure1, newPtr, applyE, hset, List.length_cons, List.length_nil, List.length_append, List.set, List.cons_append, List.nil_append] | rfl); (first | dsimp only [Env.putR, argEnv, pure1, newPtr, applyE, hset, List.length_cons, List.length_nil, List.length_append, List.set, List.cons_append, List.nil_append] | rfl))
    | refine ⟨SlB.mk (by first | omega | decide) (by first | omega | decide) (by first | omega | decide), ?_⟩
    | fail
  rfl
end Go.Proofs.YtkocmbgpiidkdaaGreatDoor
