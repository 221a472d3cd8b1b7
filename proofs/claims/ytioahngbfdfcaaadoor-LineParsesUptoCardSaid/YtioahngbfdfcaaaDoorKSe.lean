import Derived.Test.YtioahngbfdfcaaaDoorKLa
import Derived.Test.YtioahngbfdfcaaaDoorKRa
set_option linter.unusedVariables false
set_option linter.unusedSimpArgs false
namespace Go.Proofs.YtioahngbfdfcaaaDoor
open Go Go.Den Go.RowKit
variable {W0 : World}
/-! tumblerref04: Kind, stamp -/
theorem ref4_Kind (l : List UInt8) : PureF (C W0) I.tumblerref04_Kind [.string (bs l)] (.int .i64 (kindL l)) := by
  refine PureF.E (CallP.of_body (C_ok W0) B.tumblerref04_Kind rfl rfl rfl ?_)
  unfold kindL
  by_cases h1 : l = [99]
  · subst h1
    repeat' first
      | (apply Here.norm; (first | dsimp only [Env.putR, argEnv, pure1, newPtr, applyE, hset, List.length_cons, List.length_nil, List.length_append, List.set, List.cons_append, List.nil_append] | rfl); (first | dsimp only [Env.putR, argEnv, pure1, newPtr, applyE, hset, List.length_cons, List.length_nil, List.length_append, List.set, List.cons_append, List.nil_append] | rfl))
      | fail
    rfl
  · have k1 : ¬ bs l = ⟨#[99]⟩ := fun h => h1 (bs_inj (b := [99]) h)
    rw [if_neg h1]
    by_cases h2 : l = [103]
    · subst h2
      repeat' first
        | (apply Here.norm; (first | dsimp only [Env.putR, argEnv, pure1, newPtr, applyE, hset, List.length_cons, List.length_nil, List.length_append, List.set, List.cons_append, List.nil_append] | rfl); (first | dsimp only [Env.putR, argEnv, pure1, newPtr, applyE, hset, List.length_cons, List.length_nil, List.length_append, List.set, List.cons_append, List.nil_append] | rfl))
        | fail
      rfl
    · have k2 : ¬ bs l = ⟨#[103]⟩ := fun h => h2 (bs_inj (b := [103]) h)
      rw [if_neg h2]
      by_cases h3 : l = [109, 115]
      · subst h3
        repeat' first
          | (apply Here.norm; (first | dsimp only [Env.putR, argEnv, pure1, newPtr, applyE, hset, List.length_cons, List.length_nil, List.length_append, List.set, List.cons_append, List.nil_append] | rfl); (first | dsimp only [Env.putR, argEnv, pure1, newPtr, applyE, hset, List.length_cons, List.length_nil, List.length_append, List.set, List.cons_append, List.nil_append] | rfl))
          | fail
        rfl
      · have k3 : ¬ bs l = ⟨#[109, 115]⟩ := fun h => h3 (bs_inj (b := [109, 115]) h)
        rw [if_neg h3]
        by_cases h4 : l = [115]
        · subst h4
          repeat' first
            | (apply Here.norm; (first | dsimp only [Env.putR, argEnv, pure1, newPtr, applyE, hset, List.length_cons, List.length_nil, List.length_append, List.set, List.cons_append, List.nil_append] | rfl); (first | dsimp only [Env.putR, argEnv, pure1, newPtr, applyE, hset, List.length_cons, List.length_nil, List.length_append, List.set, List.cons_append, List.nil_append] | rfl))
            | fail
          rfl
        · have k4 : ¬ bs l = ⟨#[115]⟩ := fun h => h4 (bs_inj (b := [115]) h)
          rw [if_neg h4]
          repeat' first
            | refine brP.fD k1 ?_
            | refine brP.fD k2 ?_
            | refine brP.fD k3 ?_
            | refine brP.fD k4 ?_
            | (apply Here.norm; (first | dsimp only [Env.putR, argEnv, pure1, newPtr, applyE, hset, List.length_cons, List.length_nil, List.length_append, List.set, List.cons_append, List.nil_append] | rfl); (first | dsimp only [Env.putR, argEnv, pure1, newPtr, applyE, hset, List.length_cons, List.length_nil, List.length_append, List.set, List.cons_append, List.nil_append] | rfl))
            | fail
          rfl
/-- A stamp's digits, held at one above the greatest. -/
def sgF : List UInt8 → Int → Option Int
  | [], n => some n
  | c :: t, n => if isd c = true then sgF t (if 1099511627775 < n * 10 + ((c.toNat : Int) - 48) then 1099511627776 else n * 10 + ((c.toNat : Int) - 48)) else none
def stampR (l : List UInt8) : Int × Bool := match sgF l 0 with
  | none => (0, false)
  | some n => (n, decide (l ≠ []) && decide (n ≤ 1099511627775))
theorem sg_big : ∀ (l : List UInt8), sgF l 1099511627776 = none ∨ sgF l 1099511627776 = some 1099511627776
  | [] => .inr rfl
  | c :: t => by
    rw [sgF]
    by_cases h : isd c = true
    · have := isd_yes h
      rw [if_pos h, if_pos (by omega)]; exact sg_big t
    · rw [if_neg h]; exact .inl rfl
theorem sg_is : ∀ (l : List UInt8) (n : Int), 0 ≤ n → n ≤ 1099511627775 → (∃ m, stampF l n = some m ∧ sgF l n = some m ∧ m ≤ 1099511627775) ∨ (stampF l n = none ∧ (sgF l n = none ∨ sgF l n = some 1099511627776))
  | [], n, h0, h1 => .inl ⟨n, rfl, rfl, h1⟩
  | c :: t, n, h0, h1 => by
    rw [stampF, sgF]
    by_cases h : isd c = true
    · have := isd_yes h
      rw [if_pos h, if_pos h, Int.mul_comm n 10]
      by_cases ho : 1099511627775 < 10 * n + ((c.toNat : Int) - 48)
      · rw [if_pos ho, if_pos ho]; exact .inr ⟨rfl, sg_big t⟩
      · rw [if_neg ho, if_neg ho]; exact sg_is t _ (by omega) (by omega)
    · rw [if_neg h, if_neg h]; exact .inr ⟨rfl, .inl rfl⟩
theorem stamp_same (l : List UInt8) : (stampR l).2 = (stampV l).2 ∧ ((stampV l).2 = true → (stampR l).1 = (stampV l).1) := by
  unfold stampR stampV
  rcases sg_is l 0 (by decide) (by decide) with ⟨m, e1, e2, h⟩ | ⟨e1, e2 | e2⟩
  · rw [e1, e2]; dsimp only; rw [decide_eq_true h, Bool.and_true]; exact ⟨rfl, fun _ => rfl⟩
  · rw [e1, e2]; exact ⟨rfl, fun h => by cases h⟩
  · rw [e1, e2]; dsimp only; rw [decide_eq_false (show ¬ (1099511627776 : Int) ≤ 1099511627775 by decide), Bool.and_false]; exact ⟨rfl, fun h => by cases h⟩
theorem ref4_stamp (l : List UInt8) (hl : l.length ≤ 1048576) : PureF (C W0) I.tumblerref04_stamp [.string (bs l)] (.tuple #[.int .i64 (stampR l).1, .bool (stampR l).2]) := by
  have hsz := bs_size l
  refine PureF.E (CallP.of_body (C_ok W0) B.tumblerref04_stamp rfl rfl rfl ?_)
  repeat' first
    | (apply Here.norm; (first | dsimp only [Env.putR, argEnv, pure1, newPtr, applyE, hset, List.length_cons, List.length_nil, List.length_append, List.set, List.cons_append, List.nil_append] | rfl); (first | dsimp only [Env.putR, argEnv, pure1, newPtr, applyE, hset, List.length_cons, List.length_nil, List.length_append, List.set, List.cons_append, List.nil_append] | rfl))
    | fail
  refine loop_I (C_ok W0) (fun q : Nat × Int => q.1 ≤ l.length ∧ 0 ≤ q.2 ∧ q.2 ≤ 1099511627776 ∧ sgF (l.drop q.1) q.2 = sgF l 0) (fun q => [(0, .string (bs l)), (4, .int .i64 q.2), (5, .int .i64 q.1)]) (fun _ => []) (fun q => l.length - q.1) (0, 0)
    ⟨Nat.zero_le _, by decide, by decide, by rw [List.drop_zero]⟩ ⟨_, rfl, RT.of_eq rfl rfl⟩ ?_
  rintro ⟨i, n⟩ ⟨g1, g2, g3, g4⟩
  dsimp only at g1 g2 g3 g4 ⊢
  by_cases hi : i < l.length
  · have eb := byteAt_bs hi
    rw [List.drop_eq_getElem_cons hi, sgF] at g4
    by_cases hd : isd (l[i]'hi) = true
    · have hr := isd_yes hd
      rw [if_pos hd] at g4
      have w1 : IntKind.i64.wrap ((i : Int) + 1) = ((i + 1 : Nat) : Int) := by rw [wrap_in (by omega)]; omega
      have w2 : IntKind.i64.wrap (IntKind.i64.wrap (n * 10) + IntKind.i64.wrap (IntKind.u8.wrap (byteAt (bs l) (i : Int) - 48))) = n * 10 + (((l[i]'hi).toNat : Int) - 48) := by
        have a1 : IntKind.i64.wrap (n * 10) = n * 10 := wrap_in (by omega)
        have a2 : IntKind.i64.wrap (IntKind.u8.wrap (byteAt (bs l) (i : Int) - 48)) = ((l[i]'hi).toNat : Int) - 48 := by
          rw [eb, show IntKind.u8.wrap (((l[i]'hi).toNat : Int) - 48) = (((l[i]'hi).toNat : Int) - 48) % 256 by simp [IntKind.wrap, IntKind.bits, IntKind.signed], wrap_in (by omega)]; omega
        rw [a1, a2, wrap_in (by omega)]
      by_cases ho : 1099511627775 < n * 10 + (((l[i]'hi).toNat : Int) - 48)
      · rw [if_pos ho] at g4
        repeat' first
          | refine brP.tD (by omega) ?_
          | refine brP.fD (by omega) ?_
          | (apply Here.norm; (first | dsimp only [Env.putR, argEnv, pure1, newPtr, applyE, hset, List.length_cons, List.length_nil, List.length_append, List.set, List.cons_append, List.nil_append] | rfl); (first | dsimp only [Env.putR, argEnv, pure1, newPtr, applyE, hset, List.length_cons, List.length_nil, List.length_append, List.set, List.cons_append, List.nil_append] | rfl))
          | refine ⟨InB.mk (by first | decide | omega) (by first | decide | omega), ?_⟩
          | fail
        apply Again.mk (i + 1, 1099511627776)
        · exact ⟨hi, by dsimp only; omega, by dsimp only; omega, g4⟩
        · dsimp only; omega
        refine ⟨_, rfl, RT.of_eq ?_ rfl⟩
        rw [w1]; rfl
      · rw [if_neg ho] at g4
        repeat' first
          | refine brP.tD (by omega) ?_
          | refine brP.fD (by omega) ?_
          | (apply Here.norm; (first | dsimp only [Env.putR, argEnv, pure1, newPtr, applyE, hset, List.length_cons, List.length_nil, List.length_append, List.set, List.cons_append, List.nil_append] | rfl); (first | dsimp only [Env.putR, argEnv, pure1, newPtr, applyE, hset, List.length_cons, List.length_nil, List.length_append, List.set, List.cons_append, List.nil_append] | rfl))
          | refine ⟨InB.mk (by first | decide | omega) (by first | decide | omega), ?_⟩
          | fail
        apply Again.mk (i + 1, n * 10 + (((l[i]'hi).toNat : Int) - 48))
        · exact ⟨hi, by dsimp only; omega, by dsimp only; omega, g4⟩
        · dsimp only; omega
        refine ⟨_, rfl, RT.of_eq ?_ rfl⟩
        rw [w1, w2]; rfl
    · rw [if_neg hd] at g4
      have hr := isd_no (by simpa using hd : isd (l[i]'hi) = false)
      have e : stampR l = (0, false) := by unfold stampR; rw [← g4]
      rw [e]
      repeat' first
        | refine brP.tD (by omega) ?_
        | (apply Here.norm; (first | dsimp only [Env.putR, argEnv, pure1, newPtr, applyE, hset, List.length_cons, List.length_nil, List.length_append, List.set, List.cons_append, List.nil_append] | rfl); (first | dsimp only [Env.putR, argEnv, pure1, newPtr, applyE, hset, List.length_cons, List.length_nil, List.length_append, List.set, List.cons_append, List.nil_append] | rfl))
        | refine brP.introD (fun h => ?_) (fun h => ?_)
        | refine ⟨InB.mk (by first | decide | omega) (by first | decide | omega), ?_⟩
        | fail
      all_goals first
        | rfl
        | (exfalso; omega)
  · rw [List.drop_eq_nil_of_le (by omega)] at g4
    have e : stampR l = (n, decide (l ≠ []) && decide (n ≤ 1099511627775)) := by unfold stampR; rw [← g4]; rfl
    rw [e]
    by_cases h0 : l = []
    · subst h0
      repeat' first
        | (apply Here.norm; (first | dsimp only [Env.putR, argEnv, pure1, newPtr, applyE, hset, List.length_cons, List.length_nil, List.length_append, List.set, List.cons_append, List.nil_append] | rfl); (first | dsimp only [Env.putR, argEnv, pure1, newPtr, applyE, hset, List.length_cons, List.length_nil, List.length_append, List.set, List.cons_append, List.nil_append] | rfl))
        | fail
      rfl
    · have lp : 0 < l.length := List.length_pos_iff.mpr h0
      rw [decide_eq_true h0, Bool.true_and]
      repeat' first
        | refine brP.tD (by omega) ?_
        | refine brP.fD (by omega) ?_
        | (apply Here.norm; (first | dsimp only [Env.putR, argEnv, pure1, newPtr, applyE, hset, List.length_cons, List.length_nil, List.length_append, List.set, List.cons_append, List.nil_append] | rfl); (first | dsimp only [Env.putR, argEnv, pure1, newPtr, applyE, hset, List.length_cons, List.length_nil, List.length_append, List.set, List.cons_append, List.nil_append] | rfl))
        | fail
      rfl
end Go.Proofs.YtioahngbfdfcaaaDoor
