import Derived.Test.YtioahngbfdfcaaaDoorKRy
import Derived.Test.YtioahngbfdfcaaaDoorKRz
set_option linter.unusedVariables false
set_option linter.unusedSimpArgs false
namespace Go.Proofs.YtioahngbfdfcaaaDoor
open Go Go.Den Go.RowKit
variable {W0 : World}
/-! tumblerref02: Worth, Small -/
/-- Is it too great. -/
def tooBig (A : Int) : Bool := decide (340282366920938463463374607431768211456 ≤ A)
def lowBig (A : Int) : Int := A % 340282366920938463463374607431768211456
/-- The digits' number, until it is too great. -/
def wst : List UInt8 → Int → Int × Bool
  | [], A => (A, false)
  | c :: t, A => if tooBig (A * 10 + ((c.toNat : Int) - 48)) = true then (lowBig (A * 10 + ((c.toNat : Int) - 48)), true) else wst t (A * 10 + ((c.toNat : Int) - 48))
theorem wst_is (l : List UInt8) : ∀ (n : Nat), (∀ c ∈ l, 48 ≤ c.toNat ∧ c.toNat ≤ 57) → tooBig (n : Int) = false →
    ((wst l n).2 = false ∧ (wst l n).1 = ((l.foldl (fun n c => n * 10 + (c.toNat - 48)) n : Nat) : Int)) ∨
    ((wst l n).2 = true ∧ tooBig ((l.foldl (fun n c => n * 10 + (c.toNat - 48)) n : Nat) : Int) = true) := by
  induction l with
  | nil => intro n _ h; exact .inl ⟨rfl, rfl⟩
  | cons c t ih =>
    intro n hd h
    have hc := hd c (by simp)
    have e : (n : Int) * 10 + ((c.toNat : Int) - 48) = ((n * 10 + (c.toNat - 48) : Nat) : Int) := by omega
    rw [wst, List.foldl_cons, e]
    by_cases q : tooBig ((n * 10 + (c.toNat - 48) : Nat) : Int) = true
    · rw [if_pos q]
      refine .inr ⟨rfl, ?_⟩
      rw [foldv]
      have m : n * 10 + (c.toNat - 48) ≤ (n * 10 + (c.toNat - 48)) * 10 ^ t.length := Nat.le_mul_of_pos_right _ (Nat.pow_pos (by decide))
      unfold tooBig at q ⊢
      have q2 := of_decide_eq_true q
      exact decide_eq_true (by omega)
    · rw [if_neg q]
      exact ih _ (fun x hx => hd x (List.mem_cons_of_mem _ hx)) (by simpa using q)
abbrev allT (p : Bool × List UInt8 × List UInt8) : List UInt8 := (p.2.1 ++ p.2.2) ++ List.replicate (6 - p.2.2.length) 48
theorem ref2_Small (A : Int) (b : Bool) (h0 : 0 ≤ A) (h1 : A ≤ 1000000000000000) : PureF (C W0) I.tumblerref02_Small [mgV A false, .bool b] (.tuple #[.int .i64 (if b = true then -A else A), .bool true]) := by
  have e0 : A / 18446744073709551616 = 0 := by omega
  have e1 : A % 18446744073709551616 = A := by omega
  have w1 : IntKind.i64.wrap (A % 18446744073709551616) = A := by rw [e1, wrap_in (by omega)]
  refine PureF.E (CallP.of_body (C_ok W0) B.tumblerref02_Small rfl rfl rfl ?_)
  cases b with
  | true =>
    have w2 : IntKind.i64.wrap (0 - IntKind.i64.wrap (A % 18446744073709551616)) = -A := by rw [w1, wrap_in (by omega)]; omega
    rw [if_pos rfl, ← w2]
    repeat' first
      | refine brP.fD (by omega) ?_
      | (apply Here.norm; (first | dsimp only [Env.putR, argEnv, pure1, newPtr, applyE, hset, List.length_cons, List.length_nil, List.length_append, List.set, List.cons_append, List.nil_append] | rfl); (first | dsimp only [Env.putR, argEnv, pure1, newPtr, applyE, hset, List.length_cons, List.length_nil, List.length_append, List.set, List.cons_append, List.nil_append] | rfl))
      | refine ⟨_, _, _, _, _, rfl, _, rfl, ?_⟩
      | refine ⟨by decide, ?_⟩
      | fail
    rfl
  | false =>
    have ev : Value.tuple #[.int .i64 A, .bool true] = .tuple #[.int .i64 (IntKind.i64.wrap (A % 18446744073709551616)), .bool true] := by rw [w1]
    rw [if_neg (by simp), ev]
    repeat' first
      | refine brP.fD (by omega) ?_
      | (apply Here.norm; (first | dsimp only [Env.putR, argEnv, pure1, newPtr, applyE, hset, List.length_cons, List.length_nil, List.length_append, List.set, List.cons_append, List.nil_append] | rfl); (first | dsimp only [Env.putR, argEnv, pure1, newPtr, applyE, hset, List.length_cons, List.length_nil, List.length_append, List.set, List.cons_append, List.nil_append] | rfl))
      | refine ⟨_, _, _, _, _, rfl, _, rfl, ?_⟩
      | refine ⟨by decide, ?_⟩
      | fail
    rfl
end Go.Proofs.YtioahngbfdfcaaaDoor
