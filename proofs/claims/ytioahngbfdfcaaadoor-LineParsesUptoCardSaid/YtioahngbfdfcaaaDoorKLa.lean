import Derived.Test.YtioahngbfdfcaaaDoorKNv
import Derived.Test.YtioahngbfdfcaaaDoorKMp
set_option linter.unusedVariables false
set_option linter.unusedSimpArgs false
namespace Go.Proofs.YtioahngbfdfcaaaDoor
open Go Go.Den Go.RowKit
variable {W0 : World}
/-! line: kinds, members, stamps, pieces -/
def kindL (l : List UInt8) : Int := if l = [99] then 1 else if l = [103] then 2 else if l = [109, 115] then 3 else if l = [115] then 4 else 0
theorem bs_eq {l m : List UInt8} : bs l = bs m ↔ l = m := ⟨bs_inj, fun h => by rw [h]⟩
theorem line_kindOf (l : List UInt8) : PureF (C W0) I.line_kindOf [.string (bs l)] (.int .i64 (kindL l)) := by
  refine PureF.E (CallP.of_body (C_ok W0) B.line_kindOf rfl rfl rfl ?_)
  unfold kindL
  by_cases h1 : l = [99]
  · subst h1
    repeat' first
      | (apply Here.norm; (first | dsimp only [Env.putR, argEnv, pure1, newPtr, applyE, hset, List.length_cons, List.length_nil, List.length_append, List.set, List.cons_append, List.nil_append] | rfl); (first | dsimp only [Env.putR, argEnv, pure1, newPtr, applyE, hset, List.length_cons, List.length_nil, List.length_append, List.set, List.cons_append, List.nil_append] | rfl))
      | fail
    rfl
  · have k1 : ¬ bs l = ⟨#[99]⟩ := fun h => h1 (bs_inj (b := [99]) h)
    rw [if_neg h1]
    by_cases h2 : l = [103]
    · subst h2
      repeat' first
        | (apply Here.norm; (first | dsimp only [Env.putR, argEnv, pure1, newPtr, applyE, hset, List.length_cons, List.length_nil, List.length_append, List.set, List.cons_append, List.nil_append] | rfl); (first | dsimp only [Env.putR, argEnv, pure1, newPtr, applyE, hset, List.length_cons, List.length_nil, List.length_append, List.set, List.cons_append, List.nil_append] | rfl))
        | fail
      rfl
    · have k2 : ¬ bs l = ⟨#[103]⟩ := fun h => h2 (bs_inj (b := [103]) h)
      rw [if_neg h2]
      by_cases h3 : l = [109, 115]
      · subst h3
        repeat' first
          | (apply Here.norm; (first | dsimp only [Env.putR, argEnv, pure1, newPtr, applyE, hset, List.length_cons, List.length_nil, List.length_append, List.set, List.cons_append, List.nil_append] | rfl); (first | dsimp only [Env.putR, argEnv, pure1, newPtr, applyE, hset, List.length_cons, List.length_nil, List.length_append, List.set, List.cons_append, List.nil_append] | rfl))
          | fail
        rfl
      · have k3 : ¬ bs l = ⟨#[109, 115]⟩ := fun h => h3 (bs_inj (b := [109, 115]) h)
        rw [if_neg h3]
        by_cases h4 : l = [115]
        · subst h4
          repeat' first
            | (apply Here.norm; (first | dsimp only [Env.putR, argEnv, pure1, newPtr, applyE, hset, List.length_cons, List.length_nil, List.length_append, List.set, List.cons_append, List.nil_append] | rfl); (first | dsimp only [Env.putR, argEnv, pure1, newPtr, applyE, hset, List.length_cons, List.length_nil, List.length_append, List.set, List.cons_append, List.nil_append] | rfl))
            | fail
          rfl
        · have k4 : ¬ bs l = ⟨#[115]⟩ := fun h => h4 (bs_inj (b := [115]) h)
          rw [if_neg h4]
          repeat' first
            | refine brP.fD k1 ?_
            | refine brP.fD k2 ?_
            | refine brP.fD k3 ?_
            | refine brP.fD k4 ?_
            | (apply Here.norm; (first | dsimp only [Env.putR, argEnv, pure1, newPtr, applyE, hset, List.length_cons, List.length_nil, List.length_append, List.set, List.cons_append, List.nil_append] | rfl); (first | dsimp only [Env.putR, argEnv, pure1, newPtr, applyE, hset, List.length_cons, List.length_nil, List.length_append, List.set, List.cons_append, List.nil_append] | rfl))
            | fail
          rfl
/-- May it have a rate; is it a kind. -/
def mayK (k : Int) : Bool := decide (k = 1) || decide (k = 3)
def isK (k : Int) : Bool := decide (1 ≤ k) && decide (k ≤ 4)
theorem line_rated (k : Int) : PureF (C W0) I.line_rated [.int .i64 k] (.tuple #[.bool (mayK k), .bool (isK k)]) := by
  refine PureF.E (CallP.of_body (C_ok W0) B.line_rated rfl rfl rfl ?_)
  by_cases h1 : k = 1
  · subst h1
    repeat' first
      | (apply Here.norm; (first | dsimp only [Env.putR, argEnv, pure1, newPtr, applyE, hset, List.length_cons, List.length_nil, List.length_append, List.set, List.cons_append, List.nil_append] | rfl); (first | dsimp only [Env.putR, argEnv, pure1, newPtr, applyE, hset, List.length_cons, List.length_nil, List.length_append, List.set, List.cons_append, List.nil_append] | rfl))
      | fail
    rfl
  · by_cases h2 : k = 2
    · subst h2
      repeat' first
        | (apply Here.norm; (first | dsimp only [Env.putR, argEnv, pure1, newPtr, applyE, hset, List.length_cons, List.length_nil, List.length_append, List.set, List.cons_append, List.nil_append] | rfl); (first | dsimp only [Env.putR, argEnv, pure1, newPtr, applyE, hset, List.length_cons, List.length_nil, List.length_append, List.set, List.cons_append, List.nil_append] | rfl))
        | fail
      rfl
    · by_cases h3 : k = 3
      · subst h3
        repeat' first
          | (apply Here.norm; (first | dsimp only [Env.putR, argEnv, pure1, newPtr, applyE, hset, List.length_cons, List.length_nil, List.length_append, List.set, List.cons_append, List.nil_append] | rfl); (first | dsimp only [Env.putR, argEnv, pure1, newPtr, applyE, hset, List.length_cons, List.length_nil, List.length_append, List.set, List.cons_append, List.nil_append] | rfl))
          | fail
        rfl
      · by_cases h4 : k = 4
        · subst h4
          repeat' first
            | (apply Here.norm; (first | dsimp only [Env.putR, argEnv, pure1, newPtr, applyE, hset, List.length_cons, List.length_nil, List.length_append, List.set, List.cons_append, List.nil_append] | rfl); (first | dsimp only [Env.putR, argEnv, pure1, newPtr, applyE, hset, List.length_cons, List.length_nil, List.length_append, List.set, List.cons_append, List.nil_append] | rfl))
            | fail
          rfl
        · have e1 : mayK k = false := by unfold mayK; rw [decide_eq_false h1, decide_eq_false h3]; rfl
          have e2 : isK k = false := by unfold isK; simp; omega
          rw [e1, e2]
          repeat' first
            | refine brP.fD (by omega) ?_
            | (apply Here.norm; (first | dsimp only [Env.putR, argEnv, pure1, newPtr, applyE, hset, List.length_cons, List.length_nil, List.length_append, List.set, List.cons_append, List.nil_append] | rfl); (first | dsimp only [Env.putR, argEnv, pure1, newPtr, applyE, hset, List.length_cons, List.length_nil, List.length_append, List.set, List.cons_append, List.nil_append] | rfl))
            | fail
          rfl
/-- A byte of a member. -/
def memB (c : Int) : Bool := !(decide (c < 32) || decide (126 < c) || decide (c = 124))
def memL (l : List UInt8) : Bool := l.all (fun c => memB c.toNat) && (decide (1 ≤ l.length) && decide (l.length ≤ 100))
theorem line_member (l : List UInt8) (hl : l.length ≤ 1048576) : PureF (C W0) I.line_member [.string (bs l)] (.bool (memL l)) := by
  have hsz := bs_size l
  refine PureF.E (CallP.of_body (C_ok W0) B.line_member rfl rfl rfl ?_)
  repeat' first
    | (apply Here.norm; (first | dsimp only [Env.putR, argEnv, pure1, newPtr, applyE, hset, List.length_cons, List.length_nil, List.length_append, List.set, List.cons_append, List.nil_append] | rfl); (first | dsimp only [Env.putR, argEnv, pure1, newPtr, applyE, hset, List.length_cons, List.length_nil, List.length_append, List.set, List.cons_append, List.nil_append] | rfl))
    | fail
  refine loop_I (C_ok W0) (fun i : Nat => i ≤ l.length ∧ (l.drop i).all (fun c => memB c.toNat) = l.all (fun c => memB c.toNat)) (fun i => [(0, .string (bs l)), (3, .int .i64 i)]) (fun _ => []) (fun i => l.length - i) 0
    ⟨Nat.zero_le _, by rw [List.drop_zero]⟩ ⟨_, rfl, RT.of_eq rfl rfl⟩ ?_
  rintro i ⟨g1, g2⟩
  dsimp only
  by_cases hi : i < l.length
  · have eb := byteAt_bs hi
    rw [List.drop_eq_getElem_cons hi, List.all_cons] at g2
    cases hb : memB ((l[i]'hi).toNat : Int) with
    | true =>
      rw [hb, Bool.true_and] at g2
      unfold memB at hb
      simp only [Bool.not_eq_true', Bool.or_eq_false_iff, decide_eq_false_iff_not] at hb
      obtain ⟨⟨h1, h2⟩, h3⟩ := hb
      have w1 : IntKind.i64.wrap ((i : Int) + 1) = ((i + 1 : Nat) : Int) := by rw [wrap_in (by omega)]; omega
      repeat' first
        | refine brP.tD (by omega) ?_
        | refine brP.fD (by omega) ?_
        | (apply Here.norm; (first | dsimp only [Env.putR, argEnv, pure1, newPtr, applyE, hset, List.length_cons, List.length_nil, List.length_append, List.set, List.cons_append, List.nil_append] | rfl); (first | dsimp only [Env.putR, argEnv, pure1, newPtr, applyE, hset, List.length_cons, List.length_nil, List.length_append, List.set, List.cons_append, List.nil_append] | rfl))
        | refine ⟨InB.mk (by first | decide | omega) (by first | decide | omega), ?_⟩
        | fail
      apply Again.mk (i + 1)
      · exact ⟨by omega, g2⟩
      · omega
      refine ⟨_, rfl, RT.of_eq ?_ rfl⟩
      rw [w1]; rfl
    | false =>
      rw [hb, Bool.false_and] at g2
      have e : memL l = false := by unfold memL; rw [← g2]; rfl
      rw [e]
      unfold memB at hb
      simp only [Bool.not_eq_false', Bool.or_eq_true, decide_eq_true_eq] at hb
      repeat' first
        | refine brP.tD (by omega) ?_
        | (apply Here.norm; (first | dsimp only [Env.putR, argEnv, pure1, newPtr, applyE, hset, List.length_cons, List.length_nil, List.length_append, List.set, List.cons_append, List.nil_append] | rfl); (first | dsimp only [Env.putR, argEnv, pure1, newPtr, applyE, hset, List.length_cons, List.length_nil, List.length_append, List.set, List.cons_append, List.nil_append] | rfl))
        | refine brP.introD (fun h => ?_) (fun h => ?_)
        | refine ⟨InB.mk (by first | decide | omega) (by first | decide | omega), ?_⟩
        | fail
      all_goals first
        | rfl
        | (exfalso; omega)
  · rw [List.drop_eq_nil_of_le (by omega)] at g2
    unfold memL
    rw [← g2]
    by_cases h1 : 1 ≤ l.length
    · by_cases h2 : l.length ≤ 100
      · rw [decide_eq_true h1, decide_eq_true h2]
        repeat' first
          | refine brP.tD (by omega) ?_
          | refine brP.fD (by omega) ?_
          | (apply Here.norm; (first | dsimp only [Env.putR, argEnv, pure1, newPtr, applyE, hset, List.length_cons, List.length_nil, List.length_append, List.set, List.cons_append, List.nil_append] | rfl); (first | dsimp only [Env.putR, argEnv, pure1, newPtr, applyE, hset, List.length_cons, List.length_nil, List.length_append, List.set, List.cons_append, List.nil_append] | rfl))
          | fail
        exact congrArg Value.bool (decide_eq_true (by omega))
      · rw [decide_eq_true h1, decide_eq_false h2]
        repeat' first
          | refine brP.tD (by omega) ?_
          | refine brP.fD (by omega) ?_
          | (apply Here.norm; (first | dsimp only [Env.putR, argEnv, pure1, newPtr, applyE, hset, List.length_cons, List.length_nil, List.length_append, List.set, List.cons_append, List.nil_append] | rfl); (first | dsimp only [Env.putR, argEnv, pure1, newPtr, applyE, hset, List.length_cons, List.length_nil, List.length_append, List.set, List.cons_append, List.nil_append] | rfl))
          | fail
        exact congrArg Value.bool (decide_eq_false (by omega))
    · rw [decide_eq_false h1]
      repeat' first
        | refine brP.fD (by omega) ?_
        | (apply Here.norm; (first | dsimp only [Env.putR, argEnv, pure1, newPtr, applyE, hset, List.length_cons, List.length_nil, List.length_append, List.set, List.cons_append, List.nil_append] | rfl); (first | dsimp only [Env.putR, argEnv, pure1, newPtr, applyE, hset, List.length_cons, List.length_nil, List.length_append, List.set, List.cons_append, List.nil_append] | rfl))
        | fail
      rfl
/-- A stamp's digits. -/
def stampF : List UInt8 → Int → Option Int
  | [], n => some n
  | c :: t, n => if isd c = true then (if 1099511627775 < 10 * n + ((c.toNat : Int) - 48) then none else stampF t (10 * n + ((c.toNat : Int) - 48))) else none
def stampV (l : List UInt8) : Int × Bool := match stampF l 0 with
  | none => (0, false)
  | some n => (n, decide (l ≠ []))
theorem line_stamp (l : List UInt8) (hl : l.length ≤ 1048576) : PureF (C W0) I.line_stamp [.string (bs l)] (.tuple #[.int .i64 (stampV l).1, .bool (stampV l).2]) := by
  have hsz := bs_size l
  refine PureF.E (CallP.of_body (C_ok W0) B.line_stamp rfl rfl rfl ?_)
  repeat' first
    | (apply Here.norm; (first | dsimp only [Env.putR, argEnv, pure1, newPtr, applyE, hset, List.length_cons, List.length_nil, List.length_append, List.set, List.cons_append, List.nil_append] | rfl); (first | dsimp only [Env.putR, argEnv, pure1, newPtr, applyE, hset, List.length_cons, List.length_nil, List.length_append, List.set, List.cons_append, List.nil_append] | rfl))
    | fail
  refine loop_I (C_ok W0) (fun q : Nat × Int => q.1 ≤ l.length ∧ 0 ≤ q.2 ∧ q.2 ≤ 1099511627775 ∧ stampF (l.drop q.1) q.2 = stampF l 0) (fun q => [(0, .string (bs l)), (4, .int .i64 q.2), (5, .int .i64 q.1)]) (fun _ => []) (fun q => l.length - q.1) (0, 0)
    ⟨Nat.zero_le _, by decide, by decide, by rw [List.drop_zero]⟩ ⟨_, rfl, RT.of_eq rfl rfl⟩ ?_
  rintro ⟨i, n⟩ ⟨g1, g2, g3, g4⟩
  dsimp only at g1 g2 g3 g4 ⊢
  by_cases hi : i < l.length
  · have eb := byteAt_bs hi
    rw [List.drop_eq_getElem_cons hi, stampF] at g4
    by_cases hd : isd (l[i]'hi) = true
    · have hr := isd_yes hd
      rw [if_pos hd] at g4
      have w1 : IntKind.i64.wrap ((i : Int) + 1) = ((i + 1 : Nat) : Int) := by rw [wrap_in (by omega)]; omega
      have w2 : IntKind.i64.wrap (IntKind.i64.wrap (10 * n) + IntKind.i64.wrap (IntKind.u8.wrap (byteAt (bs l) (i : Int) - 48))) = 10 * n + (((l[i]'hi).toNat : Int) - 48) := by
        have a1 : IntKind.i64.wrap (10 * n) = 10 * n := wrap_in (by omega)
        have a2 : IntKind.i64.wrap (IntKind.u8.wrap (byteAt (bs l) (i : Int) - 48)) = ((l[i]'hi).toNat : Int) - 48 := by
          rw [eb, show IntKind.u8.wrap (((l[i]'hi).toNat : Int) - 48) = (((l[i]'hi).toNat : Int) - 48) % 256 by simp [IntKind.wrap, IntKind.bits, IntKind.signed], wrap_in (by omega)]; omega
        rw [a1, a2, wrap_in (by omega)]
      by_cases ho : 1099511627775 < 10 * n + (((l[i]'hi).toNat : Int) - 48)
      · rw [if_pos ho] at g4
        have e : stampV l = (0, false) := by unfold stampV; rw [← g4]
        rw [e]
        repeat' first
          | refine brP.tD (by omega) ?_
          | refine brP.fD (by omega) ?_
          | (apply Here.norm; (first | dsimp only [Env.putR, argEnv, pure1, newPtr, applyE, hset, List.length_cons, List.length_nil, List.length_append, List.set, List.cons_append, List.nil_append] | rfl); (first | dsimp only [Env.putR, argEnv, pure1, newPtr, applyE, hset, List.length_cons, List.length_nil, List.length_append, List.set, List.cons_append, List.nil_append] | rfl))
          | refine ⟨InB.mk (by first | decide | omega) (by first | decide | omega), ?_⟩
          | fail
        rfl
      · rw [if_neg ho] at g4
        repeat' first
          | refine brP.tD (by omega) ?_
          | refine brP.fD (by omega) ?_
          | (apply Here.norm; (first | dsimp only [Env.putR, argEnv, pure1, newPtr, applyE, hset, List.length_cons, List.length_nil, List.length_append, List.set, List.cons_append, List.nil_append] | rfl); (first | dsimp only [Env.putR, argEnv, pure1, newPtr, applyE, hset, List.length_cons, List.length_nil, List.length_append, List.set, List.cons_append, List.nil_append] | rfl))
          | refine ⟨InB.mk (by first | decide | omega) (by first | decide | omega), ?_⟩
          | fail
        apply Again.mk (i + 1, 10 * n + (((l[i]'hi).toNat : Int) - 48))
        · exact ⟨hi, by dsimp only; omega, by dsimp only; omega, g4⟩
        · dsimp only; omega
        refine ⟨_, rfl, RT.of_eq ?_ rfl⟩
        rw [w1, w2]; rfl
    · rw [if_neg hd] at g4
      have hr := isd_no (by simpa using hd : isd (l[i]'hi) = false)
      have e : stampV l = (0, false) := by unfold stampV; rw [← g4]
      rw [e]
      repeat' first
        | refine brP.tD (by omega) ?_
        | (apply Here.norm; (first | dsimp only [Env.putR, argEnv, pure1, newPtr, applyE, hset, List.length_cons, List.length_nil, List.length_append, List.set, List.cons_append, List.nil_append] | rfl); (first | dsimp only [Env.putR, argEnv, pure1, newPtr, applyE, hset, List.length_cons, List.length_nil, List.length_append, List.set, List.cons_append, List.nil_append] | rfl))
        | refine brP.introD (fun h => ?_) (fun h => ?_)
        | refine ⟨InB.mk (by first | decide | omega) (by first | decide | omega), ?_⟩
        | fail
      all_goals first
        | rfl
        | (exfalso; omega)
  · rw [List.drop_eq_nil_of_le (by omega)] at g4
    have e : stampV l = (n, decide (l ≠ [])) := by unfold stampV; rw [← g4]; rfl
    rw [e]
    by_cases h0 : l = []
    · subst h0
      repeat' first
        | (apply Here.norm; (first | dsimp only [Env.putR, argEnv, pure1, newPtr, applyE, hset, List.length_cons, List.length_nil, List.length_append, List.set, List.cons_append, List.nil_append] | rfl); (first | dsimp only [Env.putR, argEnv, pure1, newPtr, applyE, hset, List.length_cons, List.length_nil, List.length_append, List.set, List.cons_append, List.nil_append] | rfl))
        | fail
      rfl
    · have k0 : ¬ bs l = ⟨#[]⟩ := fun h => h0 (bs_nil_iff.mp h)
      repeat' first
        | refine brP.fD (by omega) ?_
        | (apply Here.norm; (first | dsimp only [Env.putR, argEnv, pure1, newPtr, applyE, hset, List.length_cons, List.length_nil, List.length_append, List.set, List.cons_append, List.nil_append] | rfl); (first | dsimp only [Env.putR, argEnv, pure1, newPtr, applyE, hset, List.length_cons, List.length_nil, List.length_append, List.set, List.cons_append, List.nil_append] | rfl))
        | fail
      rw [decide_eq_true h0, decide_eq_false k0]; rfl
end Go.Proofs.YtioahngbfdfcaaaDoor
