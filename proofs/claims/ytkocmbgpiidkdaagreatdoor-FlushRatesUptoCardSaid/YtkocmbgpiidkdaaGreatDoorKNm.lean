import Derived.Test.YtkocmbgpiidkdaaGreatDoorKPc
import Derived.Test.YtkocmbgpiidkdaaGreatDoorKSa
import Derived.Test.YtkocmbgpiidkdaaGreatDoorKWm
import Derived.Test.YtkocmbgpiidkdaaGreatDoorDenB
import Derived.Test.YtkocmbgpiidkdaaGreatDoorShelf
set_option linter.unusedVariables false
set_option linter.unusedSimpArgs false
namespace Go.Proofs.YtkocmbgpiidkdaaGreatDoor
open Go Go.Den Go.RowKit
variable {W0 : World}
/-! name: bytes, names -/
/-- A name byte. -/
def nb (c : Int) : Bool := decide (48 ≤ c ∧ c ≤ 57) || decide (65 ≤ c ∧ c ≤ 90) || decide (97 ≤ c ∧ c ≤ 122) || decide (c = 95) || decide (c = 45)
def sortV (c : Int) : Int := if 48 ≤ c ∧ c ≤ 57 then 1 else if 65 ≤ c ∧ c ≤ 90 then 2 else if 97 ≤ c ∧ c ≤ 122 then 3 else 0
def blankR (r : Int) : Bool := decide (r = 32) || decide (r = 160) || decide (r = 8232) || decide (r = 8233) || decide (r = 12288) || decide (r = 65279) || (decide (9 ≤ r) && decide (r ≤ 13))
def okBytes (l : List UInt8) : Bool := l.all fun c => nb c.toNat
def okPiece (p : List UInt8) : Bool := !p.isEmpty && okBytes p
/-- A name. -/
def okName (l : List UInt8) : Bool := decide (l.length ≤ 200) && decide ((cutA 46 [] l).length ≤ 16) && (cutA 46 [] l).all okPiece
theorem name_sort (c : Int) : PureF (C W0) I.name_sort [.int .u8 c] (.int .i64 (sortV c)) := by
  refine PureF.E (CallP.of_body (C_ok W0) B.name_sort rfl rfl rfl ?_)
  unfold sortV
  by_cases h1 : 48 ≤ c ∧ c ≤ 57
  · rw [if_pos h1]
    repeat' first
      | refine brP.tD (by omega) ?_
      | (apply Here.norm; (first | dsimp only [Env.putR, argEnv, pure1, newPtr, applyE, hset, List.length_cons, List.length_nil, List.length_append, List.set, List.cons_append, List.nil_append] | rfl); (first | dsimp only [Env.putR, argEnv, pure1, newPtr, applyE, hset, List.length_cons, List.length_nil, List.length_append, List.set, List.cons_append, List.nil_append] | rfl))
      | fail
    rfl
  · rw [if_neg h1]
    by_cases h2 : 65 ≤ c ∧ c ≤ 90
    · rw [if_pos h2]
      repeat' first
        | refine brP.tD (by omega) ?_
        | refine brP.fD (by omega) ?_
        | (apply Here.norm; (first | dsimp only [Env.putR, argEnv, pure1, newPtr, applyE, hset, List.length_cons, List.length_nil, List.length_append, List.set, List.cons_append, List.nil_append] | rfl); (first | dsimp only [Env.putR, argEnv, pure1, newPtr, applyE, hset, List.length_cons, List.length_nil, List.length_append, List.set, List.cons_append, List.nil_append] | rfl))
        | fail
      rfl
    · rw [if_neg h2]
      by_cases h3 : 97 ≤ c ∧ c ≤ 122
      · rw [if_pos h3]
        repeat' first
          | refine brP.tD (by omega) ?_
          | refine brP.fD (by omega) ?_
          | (apply Here.norm; (first | dsimp only [Env.putR, argEnv, pure1, newPtr, applyE, hset, List.length_cons, List.length_nil, List.length_append, List.set, List.cons_append, List.nil_append] | rfl); (first | dsimp only [Env.putR, argEnv, pure1, newPtr, applyE, hset, List.length_cons, List.length_nil, List.length_append, List.set, List.cons_append, List.nil_append] | rfl))
          | fail
        rfl
      · rw [if_neg h3]
        repeat' first
          | refine brP.fD (by omega) ?_
          | (apply Here.norm; (first | dsimp only [Env.putR, argEnv, pure1, newPtr, applyE, hset, List.length_cons, List.length_nil, List.length_append, List.set, List.cons_append, List.nil_append] | rfl); (first | dsimp only [Env.putR, argEnv, pure1, newPtr, applyE, hset, List.length_cons, List.length_nil, List.length_append, List.set, List.cons_append, List.nil_append] | rfl))
          | refine brP.introD (fun h => ?_) (fun h => ?_)
          | fail
        all_goals rfl
theorem sort_pos (c : Int) : (0 < sortV c) ↔ (48 ≤ c ∧ c ≤ 57) ∨ (65 ≤ c ∧ c ≤ 90) ∨ (97 ≤ c ∧ c ≤ 122) := by
  unfold sortV; split <;> (try split) <;> (try split) <;> simp <;> omega
theorem name_namely (c : Int) : PureF (C W0) I.name_namely [.int .u8 c] (.bool (nb c)) := by
  have so := name_sort (W0 := W0) c
  have sp := sort_pos c
  refine PureF.E (CallP.of_body (C_ok W0) B.name_namely rfl rfl rfl ?_)
  by_cases h1 : 0 < sortV c
  · have e : nb c = true := by unfold nb; rcases sp.mp h1 with h | h | h <;> simp [h]
    rw [e]
    repeat' first
      | refine brP.tD (by omega) ?_
      | refine (so).call ?_
      | (apply Here.norm; (first | dsimp only [Env.putR, argEnv, pure1, newPtr, applyE, hset, List.length_cons, List.length_nil, List.length_append, List.set, List.cons_append, List.nil_append] | rfl); (first | dsimp only [Env.putR, argEnv, pure1, newPtr, applyE, hset, List.length_cons, List.length_nil, List.length_append, List.set, List.cons_append, List.nil_append] | rfl))
      | fail
    rfl
  · have h2 : ¬ ((48 ≤ c ∧ c ≤ 57) ∨ (65 ≤ c ∧ c ≤ 90) ∨ (97 ≤ c ∧ c ≤ 122)) := fun h => h1 (sp.mpr h)
    have e : nb c = (decide (c = 95) || decide (c = 45)) := by
      unfold nb
      rw [decide_eq_false (fun h => h2 (.inl h)), decide_eq_false (fun h => h2 (.inr (.inl h))), decide_eq_false (fun h => h2 (.inr (.inr h)))]; rfl
    rw [e]
    by_cases h3 : c = 95
    ·
      repeat' first
        | refine brP.tD (by omega) ?_
        | refine brP.fD (by omega) ?_
        | refine (so).call ?_
        | (apply Here.norm; (first | dsimp only [Env.putR, argEnv, pure1, newPtr, applyE, hset, List.length_cons, List.length_nil, List.length_append, List.set, List.cons_append, List.nil_append] | rfl); (first | dsimp only [Env.putR, argEnv, pure1, newPtr, applyE, hset, List.length_cons, List.length_nil, List.length_append, List.set, List.cons_append, List.nil_append] | rfl))
        | fail
      subst h3; rfl
    · rw [decide_eq_false h3, Bool.false_or]
      repeat' first
        | refine brP.fD (by omega) ?_
        | refine (so).call ?_
        | (apply Here.norm; (first | dsimp only [Env.putR, argEnv, pure1, newPtr, applyE, hset, List.length_cons, List.length_nil, List.length_append, List.set, List.cons_append, List.nil_append] | rfl); (first | dsimp only [Env.putR, argEnv, pure1, newPtr, applyE, hset, List.length_cons, List.length_nil, List.length_append, List.set, List.cons_append, List.nil_append] | rfl))
        | fail
      rfl
theorem name_bytes (l : List UInt8) (hl : l.length ≤ 1048576) : PureF (C W0) I.name_bytes [.string (bs l)] (.bool (okBytes l)) := by
  have hsz := bs_size l
  have nm := fun c => name_namely (W0 := W0) c
  refine PureF.E (CallP.of_body (C_ok W0) B.name_bytes rfl rfl rfl ?_)
  repeat' first
    | (apply Here.norm; (first | dsimp only [Env.putR, argEnv, pure1, newPtr, applyE, hset, List.length_cons, List.length_nil, List.length_append, List.set, List.cons_append, List.nil_append] | rfl); (first | dsimp only [Env.putR, argEnv, pure1, newPtr, applyE, hset, List.length_cons, List.length_nil, List.length_append, List.set, List.cons_append, List.nil_append] | rfl))
    | fail
  refine loop_I (C_ok W0) (fun i : Nat => i ≤ l.length ∧ okBytes (l.drop i) = okBytes l) (fun i => [(0, .string (bs l)), (5, .int .i64 (bs l).size), (6, .int .i64 i)]) (fun _ => []) (fun i => l.length - i) 0
    ⟨Nat.zero_le _, by rw [List.drop_zero]⟩ ⟨_, rfl, RT.of_eq rfl rfl⟩ ?_
  rintro i ⟨g1, g2⟩
  dsimp only
  by_cases hi : i < l.length
  · have nm := nm (byteAt (bs l) (i : Int))
    have ev : okBytes (l.drop i) = (nb (byteAt (bs l) (i : Int)) && okBytes (l.drop (i + 1))) := by
      rw [byteAt_bs hi, List.drop_eq_getElem_cons hi]; rfl
    rw [ev] at g2
    cases hb : nb (byteAt (bs l) (i : Int)) with
    | true =>
      rw [hb] at nm g2
      have w1 : IntKind.i64.wrap ((i : Int) + 1) = ((i + 1 : Nat) : Int) := by rw [wrap_in (by omega)]; omega
      repeat' first
        | refine brP.tD (by omega) ?_
        | refine (nm).call ?_
        | (apply Here.norm; (first | dsimp only [Env.putR, argEnv, pure1, newPtr, applyE, hset, List.length_cons, List.length_nil, List.length_append, List.set, List.cons_append, List.nil_append] | rfl); (first | dsimp only [Env.putR, argEnv, pure1, newPtr, applyE, hset, List.length_cons, List.length_nil, List.length_append, List.set, List.cons_append, List.nil_append] | rfl))
        | refine ⟨InB.mk (by first | decide | omega) (by first | decide | omega), ?_⟩
        | fail
      apply Again.mk (i + 1)
      · exact ⟨by omega, by simpa using g2⟩
      · omega
      refine ⟨_, rfl, RT.of_eq ?_ rfl⟩
      rw [w1]; rfl
    | false =>
      rw [hb] at nm g2
      simp only [Bool.false_and] at g2
      rw [← g2]
      repeat' first
        | refine brP.tD (by omega) ?_
        | refine (nm).call ?_
        | (apply Here.norm; (first | dsimp only [Env.putR, argEnv, pure1, newPtr, applyE, hset, List.length_cons, List.length_nil, List.length_append, List.set, List.cons_append, List.nil_append] | rfl); (first | dsimp only [Env.putR, argEnv, pure1, newPtr, applyE, hset, List.length_cons, List.length_nil, List.length_append, List.set, List.cons_append, List.nil_append] | rfl))
        | refine ⟨InB.mk (by first | decide | omega) (by first | decide | omega), ?_⟩
        | fail
      rfl
  · have e : okBytes l = true := by rw [← g2, List.drop_eq_nil_of_le (by omega)]; rfl
    rw [e]
    repeat' first
      | refine brP.fD (by omega) ?_
      | (apply Here.norm; (first | dsimp only [Env.putR, argEnv, pure1, newPtr, applyE, hset, List.length_cons, List.length_nil, List.length_append, List.set, List.cons_append, List.nil_append] | rfl); (first | dsimp only [Env.putR, argEnv, pure1, newPtr, applyE, hset, List.length_cons, List.length_nil, List.length_append, List.set, List.cons_append, List.nil_append] | rfl))
      | fail
    rfl
end Go.Proofs.YtkocmbgpiidkdaaGreatDoor
