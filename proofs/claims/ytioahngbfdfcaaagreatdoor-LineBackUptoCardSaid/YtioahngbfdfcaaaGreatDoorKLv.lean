import Derived.Test.YtioahngbfdfcaaaGreatDoorKLu
set_option linter.unusedVariables false
set_option linter.unusedSimpArgs false
namespace Go.Proofs.YtioahngbfdfcaaaGreatDoor
open Go Go.Den Go.RowKit
variable {W0 : World}
/-! line: letters, valueFits, Check, Print -/
theorem line_letters (k : Int) : PureF (C W0) I.line_letters [.int .i64 k] (.string (bs (letE k))) := by
  refine PureF.E (CallP.of_body (C_ok W0) B.line_letters rfl rfl rfl ?_)
  by_cases h1 : k = 1
  · subst h1
    repeat' first
      | (apply Here.norm; (first | dsimp only [Env.putR, argEnv, pure1, newPtr, applyE, hset, List.length_cons, List.length_nil, List.length_append, List.set, List.cons_append, List.nil_append] | rfl); (first | dsimp only [Env.putR, argEnv, pure1, newPtr, applyE, hset, List.length_cons, List.length_nil, List.length_append, List.set, List.cons_append, List.nil_append] | rfl))
      | fail
    rfl
  · by_cases h2 : k = 2
    · subst h2
      repeat' first
        | (apply Here.norm; (first | dsimp only [Env.putR, argEnv, pure1, newPtr, applyE, hset, List.length_cons, List.length_nil, List.length_append, List.set, List.cons_append, List.nil_append] | rfl); (first | dsimp only [Env.putR, argEnv, pure1, newPtr, applyE, hset, List.length_cons, List.length_nil, List.length_append, List.set, List.cons_append, List.nil_append] | rfl))
        | fail
      rfl
    · by_cases h3 : k = 3
      · subst h3
        repeat' first
          | (apply Here.norm; (first | dsimp only [Env.putR, argEnv, pure1, newPtr, applyE, hset, List.length_cons, List.length_nil, List.length_append, List.set, List.cons_append, List.nil_append] | rfl); (first | dsimp only [Env.putR, argEnv, pure1, newPtr, applyE, hset, List.length_cons, List.length_nil, List.length_append, List.set, List.cons_append, List.nil_append] | rfl))
          | fail
        rfl
      · unfold letE
        rw [if_neg h1, if_neg h2, if_neg h3]
        repeat' first
          | refine brP.fD (by omega) ?_
          | (apply Here.norm; (first | dsimp only [Env.putR, argEnv, pure1, newPtr, applyE, hset, List.length_cons, List.length_nil, List.length_append, List.set, List.cons_append, List.nil_append] | rfl); (first | dsimp only [Env.putR, argEnv, pure1, newPtr, applyE, hset, List.length_cons, List.length_nil, List.length_append, List.set, List.cons_append, List.nil_append] | rfl))
          | fail
        rfl
set_option maxHeartbeats 8000000 in
theorem line_valueFits (e : Ev) (hm : e.member.length ≤ 1048576) : PureF (C W0) I.line_valueFits [evV e] (.bool (fitsV e)) := by
  obtain ⟨nm, k, v, d, mb, r, t, x⟩ := e
  dsimp only at hm
  have me := line_member (W0 := W0) mb hm
  refine PureF.E (CallP.of_body (C_ok W0) B.line_valueFits rfl rfl rfl ?_)
  by_cases a1 : 1000000000000000 < v
  · rw [show fitsV ⟨nm, k, v, d, mb, r, t, x⟩ = false from if_pos (.inl a1)]
    repeat' first
      | refine brP.tD (by omega) ?_
      | (apply Here.norm; (first | dsimp only [Env.putR, argEnv, pure1, newPtr, applyE, hset, List.length_cons, List.length_nil, List.length_append, List.set, List.cons_append, List.nil_append] | rfl); (first | dsimp only [Env.putR, argEnv, pure1, newPtr, applyE, hset, List.length_cons, List.length_nil, List.length_append, List.set, List.cons_append, List.nil_append] | rfl))
      | refine ⟨_, _, _, _, _, rfl, _, rfl, ?_⟩
      | refine ⟨by decide, ?_⟩
      | fail
    first
      | rfl
      | exact congrArg Value.bool (decide_eq_false kb)
  · by_cases a2 : v < -1000000000000000
    · rw [show fitsV ⟨nm, k, v, d, mb, r, t, x⟩ = false from if_pos (.inr (.inl a2))]
      repeat' first
        | refine brP.tD (by omega) ?_
        | refine brP.fD (by omega) ?_
        | (apply Here.norm; (first | dsimp only [Env.putR, argEnv, pure1, newPtr, applyE, hset, List.length_cons, List.length_nil, List.length_append, List.set, List.cons_append, List.nil_append] | rfl); (first | dsimp only [Env.putR, argEnv, pure1, newPtr, applyE, hset, List.length_cons, List.length_nil, List.length_append, List.set, List.cons_append, List.nil_append] | rfl))
        | refine ⟨_, _, _, _, _, rfl, _, rfl, ?_⟩
        | refine ⟨by decide, ?_⟩
        | fail
      first
        | rfl
        | exact congrArg Value.bool (decide_eq_false kb)
    · by_cases k2 : k = 2
      · subst k2
        have f : fitsV ⟨nm, 2, v, d, mb, r, t, x⟩ = decide ((d = true ∨ 0 ≤ v) ∧ mb = []) := by
          unfold fitsV
          rw [if_neg (by rintro (h | h | ⟨_, h⟩); exact a1 h; exact a2 h; exact h rfl)]
          dsimp only
          rw [if_neg (by decide), if_pos rfl]
        rw [f]
        by_cases hb : mb = []
        · subst hb
          cases d with
          | true =>
            rw [decide_eq_true ⟨.inl rfl, rfl⟩]
            repeat' first
              | refine brP.fD (by omega) ?_
              | (apply Here.norm; (first | dsimp only [Env.putR, argEnv, pure1, newPtr, applyE, hset, List.length_cons, List.length_nil, List.length_append, List.set, List.cons_append, List.nil_append] | rfl); (first | dsimp only [Env.putR, argEnv, pure1, newPtr, applyE, hset, List.length_cons, List.length_nil, List.length_append, List.set, List.cons_append, List.nil_append] | rfl))
              | refine ⟨_, _, _, _, _, rfl, _, rfl, ?_⟩
              | refine ⟨by decide, ?_⟩
              | fail
            first
              | rfl
              | exact congrArg Value.bool (decide_eq_false kb)
          | false =>
            by_cases hv : 0 ≤ v
            · rw [decide_eq_true ⟨.inr hv, rfl⟩]
              repeat' first
                | refine brP.tD (by omega) ?_
                | refine brP.fD (by omega) ?_
                | (apply Here.norm; (first | dsimp only [Env.putR, argEnv, pure1, newPtr, applyE, hset, List.length_cons, List.length_nil, List.length_append, List.set, List.cons_append, List.nil_append] | rfl); (first | dsimp only [Env.putR, argEnv, pure1, newPtr, applyE, hset, List.length_cons, List.length_nil, List.length_append, List.set, List.cons_append, List.nil_append] | rfl))
                | refine ⟨_, _, _, _, _, rfl, _, rfl, ?_⟩
                | refine ⟨by decide, ?_⟩
                | fail
              first
                | rfl
                | exact congrArg Value.bool (decide_eq_false kb)
            · rw [decide_eq_false (by rintro ⟨h | h, _⟩; cases h; exact hv h)]
              repeat' first
                | refine brP.fD (by omega) ?_
                | (apply Here.norm; (first | dsimp only [Env.putR, argEnv, pure1, newPtr, applyE, hset, List.length_cons, List.length_nil, List.length_append, List.set, List.cons_append, List.nil_append] | rfl); (first | dsimp only [Env.putR, argEnv, pure1, newPtr, applyE, hset, List.length_cons, List.length_nil, List.length_append, List.set, List.cons_append, List.nil_append] | rfl))
                | refine ⟨_, _, _, _, _, rfl, _, rfl, ?_⟩
                | refine ⟨by decide, ?_⟩
                | fail
              first
                | rfl
                | exact congrArg Value.bool (decide_eq_false kb)
        · have kb : ¬ bs mb = ⟨#[]⟩ := fun h => hb (bs_nil_iff.mp h)
          rw [decide_eq_false fun h => hb h.2]
          cases d with
          | true =>
            repeat' first
              | refine brP.fD (by omega) ?_
              | (apply Here.norm; (first | dsimp only [Env.putR, argEnv, pure1, newPtr, applyE, hset, List.length_cons, List.length_nil, List.length_append, List.set, List.cons_append, List.nil_append] | rfl); (first | dsimp only [Env.putR, argEnv, pure1, newPtr, applyE, hset, List.length_cons, List.length_nil, List.length_append, List.set, List.cons_append, List.nil_append] | rfl))
              | refine ⟨_, _, _, _, _, rfl, _, rfl, ?_⟩
              | refine ⟨by decide, ?_⟩
              | fail
            first
              | rfl
              | exact congrArg Value.bool (decide_eq_false kb)
          | false =>
            by_cases hv : 0 ≤ v
            ·
              repeat' first
                | refine brP.tD (by omega) ?_
                | refine brP.fD (by omega) ?_
                | (apply Here.norm; (first | dsimp only [Env.putR, argEnv, pure1, newPtr, applyE, hset, List.length_cons, List.length_nil, List.length_append, List.set, List.cons_append, List.nil_append] | rfl); (first | dsimp only [Env.putR, argEnv, pure1, newPtr, applyE, hset, List.length_cons, List.length_nil, List.length_append, List.set, List.cons_append, List.nil_append] | rfl))
                | refine ⟨_, _, _, _, _, rfl, _, rfl, ?_⟩
                | refine ⟨by decide, ?_⟩
                | fail
              first
                | rfl
                | exact congrArg Value.bool (decide_eq_false kb)
            ·
              repeat' first
                | refine brP.fD (by omega) ?_
                | (apply Here.norm; (first | dsimp only [Env.putR, argEnv, pure1, newPtr, applyE, hset, List.length_cons, List.length_nil, List.length_append, List.set, List.cons_append, List.nil_append] | rfl); (first | dsimp only [Env.putR, argEnv, pure1, newPtr, applyE, hset, List.length_cons, List.length_nil, List.length_append, List.set, List.cons_append, List.nil_append] | rfl))
                | refine ⟨_, _, _, _, _, rfl, _, rfl, ?_⟩
                | refine ⟨by decide, ?_⟩
                | fail
              first
                | rfl
                | exact congrArg Value.bool (decide_eq_false kb)
      · cases d with
        | true =>
          rw [show fitsV ⟨nm, k, v, true, mb, r, t, x⟩ = false from if_pos (.inr (.inr ⟨rfl, k2⟩))]
          repeat' first
            | refine brP.fD (by omega) ?_
            | refine brP.tN (by omega) ?_
            | (apply Here.norm; (first | dsimp only [Env.putR, argEnv, pure1, newPtr, applyE, hset, List.length_cons, List.length_nil, List.length_append, List.set, List.cons_append, List.nil_append] | rfl); (first | dsimp only [Env.putR, argEnv, pure1, newPtr, applyE, hset, List.length_cons, List.length_nil, List.length_append, List.set, List.cons_append, List.nil_append] | rfl))
            | refine ⟨_, _, _, _, _, rfl, _, rfl, ?_⟩
            | refine ⟨by decide, ?_⟩
            | fail
          first
            | rfl
            | exact congrArg Value.bool (decide_eq_false kb)
        | false =>
          have f0 : fitsV ⟨nm, k, v, false, mb, r, t, x⟩ = if k = 3 then decide (0 ≤ v ∧ v ≤ 100000000000000 ∧ mb = []) else if k = 4 then decide (v = 0) && memL mb else decide (mb = []) := by
            unfold fitsV
            rw [if_neg (by rintro (h | h | ⟨h, _⟩); exact a1 h; exact a2 h; cases h)]
            dsimp only
            rw [if_neg k2]
          rw [f0]
          by_cases k3 : k = 3
          · subst k3
            rw [if_pos rfl]
            by_cases v0 : 0 ≤ v
            · by_cases v1 : v ≤ 100000000000000
              · by_cases hb : mb = []
                · subst hb
                  rw [decide_eq_true ⟨v0, v1, rfl⟩]
                  repeat' first
                    | refine brP.tD (by omega) ?_
                    | refine brP.fD (by omega) ?_
                    | (apply Here.norm; (first | dsimp only [Env.putR, argEnv, pure1, newPtr, applyE, hset, List.length_cons, List.length_nil, List.length_append, List.set, List.cons_append, List.nil_append] | rfl); (first | dsimp only [Env.putR, argEnv, pure1, newPtr, applyE, hset, List.length_cons, List.length_nil, List.length_append, List.set, List.cons_append, List.nil_append] | rfl))
                    | refine ⟨_, _, _, _, _, rfl, _, rfl, ?_⟩
                    | refine ⟨by decide, ?_⟩
                    | fail
                  first
                    | rfl
                    | exact congrArg Value.bool (decide_eq_false kb)
                · have kb : ¬ bs mb = ⟨#[]⟩ := fun h => hb (bs_nil_iff.mp h)
                  rw [decide_eq_false fun h => hb h.2.2]
                  repeat' first
                    | refine brP.tD (by omega) ?_
                    | refine brP.fD (by omega) ?_
                    | (apply Here.norm; (first | dsimp only [Env.putR, argEnv, pure1, newPtr, applyE, hset, List.length_cons, List.length_nil, List.length_append, List.set, List.cons_append, List.nil_append] | rfl); (first | dsimp only [Env.putR, argEnv, pure1, newPtr, applyE, hset, List.length_cons, List.length_nil, List.length_append, List.set, List.cons_append, List.nil_append] | rfl))
                    | refine ⟨_, _, _, _, _, rfl, _, rfl, ?_⟩
                    | refine ⟨by decide, ?_⟩
                    | fail
                  first
                    | rfl
                    | exact congrArg Value.bool (decide_eq_false kb)
              · rw [decide_eq_false fun h => v1 h.2.1]
                repeat' first
                  | refine brP.tD (by omega) ?_
                  | refine brP.fD (by omega) ?_
                  | (apply Here.norm; (first | dsimp only [Env.putR, argEnv, pure1, newPtr, applyE, hset, List.length_cons, List.length_nil, List.length_append, List.set, List.cons_append, List.nil_append] | rfl); (first | dsimp only [Env.putR, argEnv, pure1, newPtr, applyE, hset, List.length_cons, List.length_nil, List.length_append, List.set, List.cons_append, List.nil_append] | rfl))
                  | refine ⟨_, _, _, _, _, rfl, _, rfl, ?_⟩
                  | refine ⟨by decide, ?_⟩
                  | fail
                first
                  | rfl
                  | exact congrArg Value.bool (decide_eq_false kb)
            · rw [decide_eq_false fun h => v0 h.1]
              repeat' first
                | refine brP.fD (by omega) ?_
                | (apply Here.norm; (first | dsimp only [Env.putR, argEnv, pure1, newPtr, applyE, hset, List.length_cons, List.length_nil, List.length_append, List.set, List.cons_append, List.nil_append] | rfl); (first | dsimp only [Env.putR, argEnv, pure1, newPtr, applyE, hset, List.length_cons, List.length_nil, List.length_append, List.set, List.cons_append, List.nil_append] | rfl))
                | refine ⟨_, _, _, _, _, rfl, _, rfl, ?_⟩
                | refine ⟨by decide, ?_⟩
                | fail
              first
                | rfl
                | exact congrArg Value.bool (decide_eq_false kb)
          · rw [if_neg k3]
            by_cases k4 : k = 4
            · subst k4
              rw [if_pos rfl]
              by_cases v0 : v = 0
              · subst v0
                rw [decide_eq_true rfl, Bool.true_and]
                repeat' first
                  | refine (me).call ?_
                  | (apply Here.norm; (first | dsimp only [Env.putR, argEnv, pure1, newPtr, applyE, hset, List.length_cons, List.length_nil, List.length_append, List.set, List.cons_append, List.nil_append] | rfl); (first | dsimp only [Env.putR, argEnv, pure1, newPtr, applyE, hset, List.length_cons, List.length_nil, List.length_append, List.set, List.cons_append, List.nil_append] | rfl))
                  | refine ⟨_, _, _, _, _, rfl, _, rfl, ?_⟩
                  | refine ⟨by decide, ?_⟩
                  | fail
                first
                  | rfl
                  | exact congrArg Value.bool (decide_eq_false kb)
              · rw [decide_eq_false v0, Bool.false_and]
                repeat' first
                  | refine brP.fD (by omega) ?_
                  | (apply Here.norm; (first | dsimp only [Env.putR, argEnv, pure1, newPtr, applyE, hset, List.length_cons, List.length_nil, List.length_append, List.set, List.cons_append, List.nil_append] | rfl); (first | dsimp only [Env.putR, argEnv, pure1, newPtr, applyE, hset, List.length_cons, List.length_nil, List.length_append, List.set, List.cons_append, List.nil_append] | rfl))
                  | refine ⟨_, _, _, _, _, rfl, _, rfl, ?_⟩
                  | refine ⟨by decide, ?_⟩
                  | fail
                first
                  | rfl
                  | exact congrArg Value.bool (decide_eq_false kb)
            · rw [if_neg k4]
              by_cases hb : mb = []
              · subst hb
                rw [decide_eq_true rfl]
                repeat' first
                  | refine brP.fD (by omega) ?_
                  | (apply Here.norm; (first | dsimp only [Env.putR, argEnv, pure1, newPtr, applyE, hset, List.length_cons, List.length_nil, List.length_append, List.set, List.cons_append, List.nil_append] | rfl); (first | dsimp only [Env.putR, argEnv, pure1, newPtr, applyE, hset, List.length_cons, List.length_nil, List.length_append, List.set, List.cons_append, List.nil_append] | rfl))
                  | refine ⟨_, _, _, _, _, rfl, _, rfl, ?_⟩
                  | refine ⟨by decide, ?_⟩
                  | fail
                first
                  | rfl
                  | exact congrArg Value.bool (decide_eq_false kb)
              · have kb : ¬ bs mb = ⟨#[]⟩ := fun h => hb (bs_nil_iff.mp h)
                rw [decide_eq_false hb]
                repeat' first
                  | refine brP.fD (by omega) ?_
                  | (apply Here.norm; (first | dsimp only [Env.putR, argEnv, pure1, newPtr, applyE, hset, List.length_cons, List.length_nil, List.length_append, List.set, List.cons_append, List.nil_append] | rfl); (first | dsimp only [Env.putR, argEnv, pure1, newPtr, applyE, hset, List.length_cons, List.length_nil, List.length_append, List.set, List.cons_append, List.nil_append] | rfl))
                  | refine ⟨_, _, _, _, _, rfl, _, rfl, ?_⟩
                  | refine ⟨by decide, ?_⟩
                  | fail
                first
                  | rfl
                  | exact congrArg Value.bool (decide_eq_false kb)
attribute [local irreducible] okName fitsV memL showW
set_option maxRecDepth 20000 in
set_option maxHeartbeats 8000000 in
theorem line_Check (hW : WF W0) (e : Ev) (hn : e.name.length ≤ 1048576) (hm : e.member.length ≤ 1048576) : PureF (C W0) I.line_Check [evV e] (.int .i64 (checkV e)) := by
  have nv := name_Valid (W0 := W0) hW e.name hn
  have vf := line_valueFits (W0 := W0) e hm
  have ra := line_rated (W0 := W0) e.kind
  obtain ⟨nm, k, v, d, mb, r, t, x⟩ := e
  dsimp only at nv ra
  refine PureF.E (CallP.of_body (C_ok W0) B.line_Check rfl rfl rfl ?_)
  unfold checkV
  dsimp only
  by_cases c1 : okName nm = false
  · rw [if_pos c1]
    rw [c1] at nv
    repeat' first
      | refine (nv).call ?_
      | refine (ra).call ?_
      | (apply Here.norm; (first | dsimp only [Env.putR, argEnv, pure1, newPtr, applyE, hset, List.length_cons, List.length_nil, List.length_append, List.set, List.cons_append, List.nil_append] | rfl); (first | dsimp only [Env.putR, argEnv, pure1, newPtr, applyE, hset, List.length_cons, List.length_nil, List.length_append, List.set, List.cons_append, List.nil_append] | rfl))
      | refine ⟨_, _, _, _, _, rfl, _, rfl, ?_⟩
      | refine ⟨by decide, ?_⟩
      | refine ⟨_, rfl, ?_⟩
      | fail
    rfl
  · rw [if_neg c1]
    rw [show okName nm = true by simpa using c1] at nv
    by_cases c2 : isK k = false
    · rw [if_pos c2]
      rw [c2] at ra
      repeat' first
        | refine (nv).call ?_
        | refine (ra).call ?_
        | (apply Here.norm; (first | dsimp only [Env.putR, argEnv, pure1, newPtr, applyE, hset, List.length_cons, List.length_nil, List.length_append, List.set, List.cons_append, List.nil_append] | rfl); (first | dsimp only [Env.putR, argEnv, pure1, newPtr, applyE, hset, List.length_cons, List.length_nil, List.length_append, List.set, List.cons_append, List.nil_append] | rfl))
        | refine ⟨_, _, _, _, _, rfl, _, rfl, ?_⟩
        | refine ⟨by decide, ?_⟩
        | refine ⟨_, rfl, ?_⟩
        | fail
      rfl
    · rw [if_neg c2]
      rw [show isK k = true by simpa using c2] at ra
      by_cases c3 : fitsV ⟨nm, k, v, d, mb, r, t, x⟩ = false
      · rw [if_pos c3]
        rw [c3] at vf
        repeat' first
          | refine (nv).call ?_
          | refine (vf).call ?_
          | refine (ra).call ?_
          | (apply Here.norm; (first | dsimp only [Env.putR, argEnv, pure1, newPtr, applyE, hset, List.length_cons, List.length_nil, List.length_append, List.set, List.cons_append, List.nil_append] | rfl); (first | dsimp only [Env.putR, argEnv, pure1, newPtr, applyE, hset, List.length_cons, List.length_nil, List.length_append, List.set, List.cons_append, List.nil_append] | rfl))
          | refine ⟨_, _, _, _, _, rfl, _, rfl, ?_⟩
          | refine ⟨_, _, _, _, _, rfl, Fits.mk (by first | exact Nat.le_of_ble_eq_true rfl | (dsimp only; omega)), _, rfl, ?_⟩
          | refine ⟨by decide, ?_⟩
          | refine ⟨_, rfl, ?_⟩
          | fail
        rfl
      · rw [if_neg c3]
        rw [show fitsV ⟨nm, k, v, d, mb, r, t, x⟩ = true by simpa using c3] at vf
        have em : mayK k = true ∨ mayK k = false := by cases mayK k <;> simp
        by_cases r1 : r < 1000
        · rw [if_pos (.inl r1)]
          repeat' first
            | refine brP.tD (by omega) ?_
            | refine (nv).call ?_
            | refine (vf).call ?_
            | refine (ra).call ?_
            | (apply Here.norm; (first | dsimp only [Env.putR, argEnv, pure1, newPtr, applyE, hset, List.length_cons, List.length_nil, List.length_append, List.set, List.cons_append, List.nil_append] | rfl); (first | dsimp only [Env.putR, argEnv, pure1, newPtr, applyE, hset, List.length_cons, List.length_nil, List.length_append, List.set, List.cons_append, List.nil_append] | rfl))
            | refine ⟨_, _, _, _, _, rfl, _, rfl, ?_⟩
            | refine ⟨_, _, _, _, _, rfl, Fits.mk (by first | exact Nat.le_of_ble_eq_true rfl | (dsimp only; omega)), _, rfl, ?_⟩
            | refine ⟨by decide, ?_⟩
            | refine ⟨_, rfl, ?_⟩
            | fail
          rfl
        · by_cases r2 : 1000000 < r
          · rw [if_pos (.inr (.inl r2))]
            repeat' first
              | refine brP.tD (by omega) ?_
              | refine brP.fD (by omega) ?_
              | refine (nv).call ?_
              | refine (vf).call ?_
              | refine (ra).call ?_
              | (apply Here.norm; (first | dsimp only [Env.putR, argEnv, pure1, newPtr, applyE, hset, List.length_cons, List.length_nil, List.length_append, List.set, List.cons_append, List.nil_append] | rfl); (first | dsimp only [Env.putR, argEnv, pure1, newPtr, applyE, hset, List.length_cons, List.length_nil, List.length_append, List.set, List.cons_append, List.nil_append] | rfl))
              | refine ⟨_, _, _, _, _, rfl, _, rfl, ?_⟩
              | refine ⟨_, _, _, _, _, rfl, Fits.mk (by first | exact Nat.le_of_ble_eq_true rfl | (dsimp only; omega)), _, rfl, ?_⟩
              | refine ⟨by decide, ?_⟩
              | refine ⟨_, rfl, ?_⟩
              | fail
            rfl
          · by_cases r3 : mayK k = false ∧ r ≠ 1000000
            · rw [if_pos (.inr (.inr r3))]
              rw [r3.1] at ra
              have r4 := r3.2
              repeat' first
                | refine brP.fD (by omega) ?_
                | refine brP.tN (by omega) ?_
                | refine (nv).call ?_
                | refine (vf).call ?_
                | refine (ra).call ?_
                | (apply Here.norm; (first | dsimp only [Env.putR, argEnv, pure1, newPtr, applyE, hset, List.length_cons, List.length_nil, List.length_append, List.set, List.cons_append, List.nil_append] | rfl); (first | dsimp only [Env.putR, argEnv, pure1, newPtr, applyE, hset, List.length_cons, List.length_nil, List.length_append, List.set, List.cons_append, List.nil_append] | rfl))
                | refine ⟨_, _, _, _, _, rfl, _, rfl, ?_⟩
                | refine ⟨_, _, _, _, _, rfl, Fits.mk (by first | exact Nat.le_of_ble_eq_true rfl | (dsimp only; omega)), _, rfl, ?_⟩
                | refine ⟨by decide, ?_⟩
                | refine ⟨_, rfl, ?_⟩
                | fail
              rfl
            · rw [if_neg (by rintro (h | h | h); exact r1 h; exact r2 h; exact r3 h)]
              have hr : mayK k = true ∨ r = 1000000 := by
                rcases em with h | h
                · exact .inl h
                · exact .inr (Decidable.byContradiction fun z => r3 ⟨h, z⟩)
              cases t with
              | true =>
                by_cases x1 : x < 0
                · rw [if_pos (.inl ⟨rfl, .inl x1⟩)]
                  rcases hr with h | rfl
                  · rw [h] at ra
                    repeat' first
                      | refine brP.tD (by omega) ?_
                      | refine brP.fD (by omega) ?_
                      | refine (nv).call ?_
                      | refine (vf).call ?_
                      | refine (ra).call ?_
                      | (apply Here.norm; (first | dsimp only [Env.putR, argEnv, pure1, newPtr, applyE, hset, List.length_cons, List.length_nil, List.length_append, List.set, List.cons_append, List.nil_append] | rfl); (first | dsimp only [Env.putR, argEnv, pure1, newPtr, applyE, hset, List.length_cons, List.length_nil, List.length_append, List.set, List.cons_append, List.nil_append] | rfl))
                      | refine ⟨_, _, _, _, _, rfl, _, rfl, ?_⟩
                      | refine ⟨_, _, _, _, _, rfl, Fits.mk (by first | exact Nat.le_of_ble_eq_true rfl | (dsimp only; omega)), _, rfl, ?_⟩
                      | refine ⟨by decide, ?_⟩
                      | refine ⟨_, rfl, ?_⟩
                      | fail
                    rfl
                  · rcases em with h | h
                    · rw [h] at ra
                      repeat' first
                        | refine brP.tD (by omega) ?_
                        | refine (nv).call ?_
                        | refine (vf).call ?_
                        | refine (ra).call ?_
                        | (apply Here.norm; (first | dsimp only [Env.putR, argEnv, pure1, newPtr, applyE, hset, List.length_cons, List.length_nil, List.length_append, List.set, List.cons_append, List.nil_append] | rfl); (first | dsimp only [Env.putR, argEnv, pure1, newPtr, applyE, hset, List.length_cons, List.length_nil, List.length_append, List.set, List.cons_append, List.nil_append] | rfl))
                        | refine ⟨_, _, _, _, _, rfl, _, rfl, ?_⟩
                        | refine ⟨_, _, _, _, _, rfl, Fits.mk (by first | exact Nat.le_of_ble_eq_true rfl | (dsimp only; omega)), _, rfl, ?_⟩
                        | refine ⟨by decide, ?_⟩
                        | refine ⟨_, rfl, ?_⟩
                        | fail
                      rfl
                    · rw [h] at ra
                      repeat' first
                        | refine brP.tD (by omega) ?_
                        | refine (nv).call ?_
                        | refine (vf).call ?_
                        | refine (ra).call ?_
                        | (apply Here.norm; (first | dsimp only [Env.putR, argEnv, pure1, newPtr, applyE, hset, List.length_cons, List.length_nil, List.length_append, List.set, List.cons_append, List.nil_append] | rfl); (first | dsimp only [Env.putR, argEnv, pure1, newPtr, applyE, hset, List.length_cons, List.length_nil, List.length_append, List.set, List.cons_append, List.nil_append] | rfl))
                        | refine ⟨_, _, _, _, _, rfl, _, rfl, ?_⟩
                        | refine ⟨_, _, _, _, _, rfl, Fits.mk (by first | exact Nat.le_of_ble_eq_true rfl | (dsimp only; omega)), _, rfl, ?_⟩
                        | refine ⟨by decide, ?_⟩
                        | refine ⟨_, rfl, ?_⟩
                        | fail
                      rfl
                · by_cases x2 : 1099511627775 < x
                  · rw [if_pos (.inl ⟨rfl, .inr x2⟩)]
                    rcases hr with h | rfl
                    · rw [h] at ra
                      repeat' first
                        | refine brP.tD (by omega) ?_
                        | refine brP.fD (by omega) ?_
                        | refine (nv).call ?_
                        | refine (vf).call ?_
                        | refine (ra).call ?_
                        | (apply Here.norm; (first | dsimp only [Env.putR, argEnv, pure1, newPtr, applyE, hset, List.length_cons, List.length_nil, List.length_append, List.set, List.cons_append, List.nil_append] | rfl); (first | dsimp only [Env.putR, argEnv, pure1, newPtr, applyE, hset, List.length_cons, List.length_nil, List.length_append, List.set, List.cons_append, List.nil_append] | rfl))
                        | refine ⟨_, _, _, _, _, rfl, _, rfl, ?_⟩
                        | refine ⟨_, _, _, _, _, rfl, Fits.mk (by first | exact Nat.le_of_ble_eq_true rfl | (dsimp only; omega)), _, rfl, ?_⟩
                        | refine ⟨by decide, ?_⟩
                        | refine ⟨_, rfl, ?_⟩
                        | fail
                      rfl
                    · rcases em with h | h
                      · rw [h] at ra
                        repeat' first
                          | refine brP.tD (by omega) ?_
                          | refine brP.fD (by omega) ?_
                          | refine (nv).call ?_
                          | refine (vf).call ?_
                          | refine (ra).call ?_
                          | (apply Here.norm; (first | dsimp only [Env.putR, argEnv, pure1, newPtr, applyE, hset, List.length_cons, List.length_nil, List.length_append, List.set, List.cons_append, List.nil_append] | rfl); (first | dsimp only [Env.putR, argEnv, pure1, newPtr, applyE, hset, List.length_cons, List.length_nil, List.length_append, List.set, List.cons_append, List.nil_append] | rfl))
                          | refine ⟨_, _, _, _, _, rfl, _, rfl, ?_⟩
                          | refine ⟨_, _, _, _, _, rfl, Fits.mk (by first | exact Nat.le_of_ble_eq_true rfl | (dsimp only; omega)), _, rfl, ?_⟩
                          | refine ⟨by decide, ?_⟩
                          | refine ⟨_, rfl, ?_⟩
                          | fail
                        rfl
                      · rw [h] at ra
                        repeat' first
                          | refine brP.tD (by omega) ?_
                          | refine brP.fD (by omega) ?_
                          | refine (nv).call ?_
                          | refine (vf).call ?_
                          | refine (ra).call ?_
                          | (apply Here.norm; (first | dsimp only [Env.putR, argEnv, pure1, newPtr, applyE, hset, List.length_cons, List.length_nil, List.length_append, List.set, List.cons_append, List.nil_append] | rfl); (first | dsimp only [Env.putR, argEnv, pure1, newPtr, applyE, hset, List.length_cons, List.length_nil, List.length_append, List.set, List.cons_append, List.nil_append] | rfl))
                          | refine ⟨_, _, _, _, _, rfl, _, rfl, ?_⟩
                          | refine ⟨_, _, _, _, _, rfl, Fits.mk (by first | exact Nat.le_of_ble_eq_true rfl | (dsimp only; omega)), _, rfl, ?_⟩
                          | refine ⟨by decide, ?_⟩
                          | refine ⟨_, rfl, ?_⟩
                          | fail
                        rfl
                  · rw [if_neg (by rintro (⟨_, h | h⟩ | ⟨h, _⟩); exact x1 h; exact x2 h; cases h)]
                    rcases hr with h | rfl
                    · rw [h] at ra
                      repeat' first
                        | refine brP.fD (by omega) ?_
                        | refine (nv).call ?_
                        | refine (vf).call ?_
                        | refine (ra).call ?_
                        | (apply Here.norm; (first | dsimp only [Env.putR, argEnv, pure1, newPtr, applyE, hset, List.length_cons, List.length_nil, List.length_append, List.set, List.cons_append, List.nil_append] | rfl); (first | dsimp only [Env.putR, argEnv, pure1, newPtr, applyE, hset, List.length_cons, List.length_nil, List.length_append, List.set, List.cons_append, List.nil_append] | rfl))
                        | refine ⟨_, _, _, _, _, rfl, _, rfl, ?_⟩
                        | refine ⟨_, _, _, _, _, rfl, Fits.mk (by first | exact Nat.le_of_ble_eq_true rfl | (dsimp only; omega)), _, rfl, ?_⟩
                        | refine ⟨by decide, ?_⟩
                        | refine ⟨_, rfl, ?_⟩
                        | fail
                      rfl
                    · rcases em with h | h
                      · rw [h] at ra
                        repeat' first
                          | refine brP.fD (by omega) ?_
                          | refine (nv).call ?_
                          | refine (vf).call ?_
                          | refine (ra).call ?_
                          | (apply Here.norm; (first | dsimp only [Env.putR, argEnv, pure1, newPtr, applyE, hset, List.length_cons, List.length_nil, List.length_append, List.set, List.cons_append, List.nil_append] | rfl); (first | dsimp only [Env.putR, argEnv, pure1, newPtr, applyE, hset, List.length_cons, List.length_nil, List.length_append, List.set, List.cons_append, List.nil_append] | rfl))
                          | refine ⟨_, _, _, _, _, rfl, _, rfl, ?_⟩
                          | refine ⟨_, _, _, _, _, rfl, Fits.mk (by first | exact Nat.le_of_ble_eq_true rfl | (dsimp only; omega)), _, rfl, ?_⟩
                          | refine ⟨by decide, ?_⟩
                          | refine ⟨_, rfl, ?_⟩
                          | fail
                        rfl
                      · rw [h] at ra
                        repeat' first
                          | refine brP.fD (by omega) ?_
                          | refine (nv).call ?_
                          | refine (vf).call ?_
                          | refine (ra).call ?_
                          | (apply Here.norm; (first | dsimp only [Env.putR, argEnv, pure1, newPtr, applyE, hset, List.length_cons, List.length_nil, List.length_append, List.set, List.cons_append, List.nil_append] | rfl); (first | dsimp only [Env.putR, argEnv, pure1, newPtr, applyE, hset, List.length_cons, List.length_nil, List.length_append, List.set, List.cons_append, List.nil_append] | rfl))
                          | refine ⟨_, _, _, _, _, rfl, _, rfl, ?_⟩
                          | refine ⟨_, _, _, _, _, rfl, Fits.mk (by first | exact Nat.le_of_ble_eq_true rfl | (dsimp only; omega)), _, rfl, ?_⟩
                          | refine ⟨by decide, ?_⟩
                          | refine ⟨_, rfl, ?_⟩
                          | fail
                        rfl
              | false =>
                by_cases x0 : x = 0
                · subst x0
                  rw [if_neg (by rintro (⟨h, _⟩ | ⟨_, h⟩); cases h; exact h rfl)]
                  rcases hr with h | rfl
                  · rw [h] at ra
                    repeat' first
                      | refine brP.fD (by omega) ?_
                      | refine (nv).call ?_
                      | refine (vf).call ?_
                      | refine (ra).call ?_
                      | (apply Here.norm; (first | dsimp only [Env.putR, argEnv, pure1, newPtr, applyE, hset, List.length_cons, List.length_nil, List.length_append, List.set, List.cons_append, List.nil_append] | rfl); (first | dsimp only [Env.putR, argEnv, pure1, newPtr, applyE, hset, List.length_cons, List.length_nil, List.length_append, List.set, List.cons_append, List.nil_append] | rfl))
                      | refine ⟨_, _, _, _, _, rfl, _, rfl, ?_⟩
                      | refine ⟨_, _, _, _, _, rfl, Fits.mk (by first | exact Nat.le_of_ble_eq_true rfl | (dsimp only; omega)), _, rfl, ?_⟩
                      | refine ⟨by decide, ?_⟩
                      | refine ⟨_, rfl, ?_⟩
                      | fail
                    rfl
                  · rcases em with h | h
                    · rw [h] at ra
                      repeat' first
                        | refine (nv).call ?_
                        | refine (vf).call ?_
                        | refine (ra).call ?_
                        | (apply Here.norm; (first | dsimp only [Env.putR, argEnv, pure1, newPtr, applyE, hset, List.length_cons, List.length_nil, List.length_append, List.set, List.cons_append, List.nil_append] | rfl); (first | dsimp only [Env.putR, argEnv, pure1, newPtr, applyE, hset, List.length_cons, List.length_nil, List.length_append, List.set, List.cons_append, List.nil_append] | rfl))
                        | refine ⟨_, _, _, _, _, rfl, _, rfl, ?_⟩
                        | refine ⟨_, _, _, _, _, rfl, Fits.mk (by first | exact Nat.le_of_ble_eq_true rfl | (dsimp only; omega)), _, rfl, ?_⟩
                        | refine ⟨by decide, ?_⟩
                        | refine ⟨_, rfl, ?_⟩
                        | fail
                      rfl
                    · rw [h] at ra
                      repeat' first
                        | refine (nv).call ?_
                        | refine (vf).call ?_
                        | refine (ra).call ?_
                        | (apply Here.norm; (first | dsimp only [Env.putR, argEnv, pure1, newPtr, applyE, hset, List.length_cons, List.length_nil, List.length_append, List.set, List.cons_append, List.nil_append] | rfl); (first | dsimp only [Env.putR, argEnv, pure1, newPtr, applyE, hset, List.length_cons, List.length_nil, List.length_append, List.set, List.cons_append, List.nil_append] | rfl))
                        | refine ⟨_, _, _, _, _, rfl, _, rfl, ?_⟩
                        | refine ⟨_, _, _, _, _, rfl, Fits.mk (by first | exact Nat.le_of_ble_eq_true rfl | (dsimp only; omega)), _, rfl, ?_⟩
                        | refine ⟨by decide, ?_⟩
                        | refine ⟨_, rfl, ?_⟩
                        | fail
                      rfl
                · rw [if_pos (.inr ⟨rfl, x0⟩)]
                  rcases hr with h | rfl
                  · rw [h] at ra
                    repeat' first
                      | refine brP.fD (by omega) ?_
                      | refine brP.tN (by omega) ?_
                      | refine (nv).call ?_
                      | refine (vf).call ?_
                      | refine (ra).call ?_
                      | (apply Here.norm; (first | dsimp only [Env.putR, argEnv, pure1, newPtr, applyE, hset, List.length_cons, List.length_nil, List.length_append, List.set, List.cons_append, List.nil_append] | rfl); (first | dsimp only [Env.putR, argEnv, pure1, newPtr, applyE, hset, List.length_cons, List.length_nil, List.length_append, List.set, List.cons_append, List.nil_append] | rfl))
                      | refine ⟨_, _, _, _, _, rfl, _, rfl, ?_⟩
                      | refine ⟨_, _, _, _, _, rfl, Fits.mk (by first | exact Nat.le_of_ble_eq_true rfl | (dsimp only; omega)), _, rfl, ?_⟩
                      | refine ⟨by decide, ?_⟩
                      | refine ⟨_, rfl, ?_⟩
                      | fail
                    rfl
                  · rcases em with h | h
                    · rw [h] at ra
                      repeat' first
                        | refine brP.tN (by omega) ?_
                        | refine (nv).call ?_
                        | refine (vf).call ?_
                        | refine (ra).call ?_
                        | (apply Here.norm; (first | dsimp only [Env.putR, argEnv, pure1, newPtr, applyE, hset, List.length_cons, List.length_nil, List.length_append, List.set, List.cons_append, List.nil_append] | rfl); (first | dsimp only [Env.putR, argEnv, pure1, newPtr, applyE, hset, List.length_cons, List.length_nil, List.length_append, List.set, List.cons_append, List.nil_append] | rfl))
                        | refine ⟨_, _, _, _, _, rfl, _, rfl, ?_⟩
                        | refine ⟨_, _, _, _, _, rfl, Fits.mk (by first | exact Nat.le_of_ble_eq_true rfl | (dsimp only; omega)), _, rfl, ?_⟩
                        | refine ⟨by decide, ?_⟩
                        | refine ⟨_, rfl, ?_⟩
                        | fail
                      rfl
                    · rw [h] at ra
                      repeat' first
                        | refine brP.tN (by omega) ?_
                        | refine (nv).call ?_
                        | refine (vf).call ?_
                        | refine (ra).call ?_
                        | (apply Here.norm; (first | dsimp only [Env.putR, argEnv, pure1, newPtr, applyE, hset, List.length_cons, List.length_nil, List.length_append, List.set, List.cons_append, List.nil_append] | rfl); (first | dsimp only [Env.putR, argEnv, pure1, newPtr, applyE, hset, List.length_cons, List.length_nil, List.length_append, List.set, List.cons_append, List.nil_append] | rfl))
                        | refine ⟨_, _, _, _, _, rfl, _, rfl, ?_⟩
                        | refine ⟨_, _, _, _, _, rfl, Fits.mk (by first | exact Nat.le_of_ble_eq_true rfl | (dsimp only; omega)), _, rfl, ?_⟩
                        | refine ⟨by decide, ?_⟩
                        | refine ⟨_, rfl, ?_⟩
                        | fail
                      rfl
end Go.Proofs.YtioahngbfdfcaaaGreatDoor
