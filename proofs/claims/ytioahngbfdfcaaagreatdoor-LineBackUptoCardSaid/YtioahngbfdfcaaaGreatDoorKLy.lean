import Derived.Test.YtioahngbfdfcaaaGreatDoorKLw
import Derived.Test.YtioahngbfdfcaaaGreatDoorKRb
set_option linter.unusedVariables false
set_option linter.unusedSimpArgs false
namespace Go.Proofs.YtioahngbfdfcaaaGreatDoor
open Go Go.Den Go.RowKit
variable {W0 : World}
/-! LineBack -/
theorem ev_lika {n m : ByteArray} {k v r t : Int} {d x : Bool} {i1 : Decidable (n = n)} {i2 : Decidable (k = k)} {i3 : Decidable (v = v)} {i4 : Decidable (m = m)} {i5 : Decidable (r = r)} {i6 : Decidable (t = t)} :
    (@decide (n = n) i1 && (@decide (k = k) i2 && (@decide (v = v) i3 && ((d == d) && (@decide (m = m) i4 && (@decide (r = r) i5 && ((x == x) && (@decide (t = t) i6 && true)))))))) = true := by simp
attribute [local irreducible] parseL printV checkV
set_option maxRecDepth 20000 in
set_option maxHeartbeats 8000000 in
theorem lineBack (hW : WF W0) (hT : Tens W0) (nm : List UInt8) (k v : Int) (d : Bool) (mb : List UInt8) (r : Int) (t : Bool) (x : Int) (h0 : nm.length ≤ 1048576) (h1 : -9223372036854775808 ≤ k ∧ k ≤ 9223372036854775807) (h2 : -9223372036854775808 ≤ v ∧ v ≤ 9223372036854775807)
    (h4 : mb.length ≤ 1048576) (h5 : -9223372036854775808 ≤ r ∧ r ≤ 9223372036854775807) (h7 : -9223372036854775808 ≤ x ∧ x ≤ 9223372036854775807) :
    PureF (C W0) I.tumblerlaw04_LineBack [.agg #[.string (bs nm), .int .i64 k, .int .i64 v, .bool d, .string (bs mb), .int .i64 r, .bool t, .int .i64 x]] (.bool true) := by
  have aw := awake hW
  have p1 := line_Print (W0 := W0) hW hT ⟨nm, k, v, d, mb, r, t, x⟩ h0 h4
  have p2 := ref4_Check (W0 := W0) ⟨nm, k, v, d, mb, r, t, x⟩ h0 h4
  unfold prV at p1
  refine PureF.E (CallP.of_body (C_ok W0) B.tumblerlaw04_LineBack rfl rfl rfl ?_)
  by_cases c : checkV ⟨nm, k, v, d, mb, r, t, x⟩ = 0
  · have m := (check_iff ⟨nm, k, v, d, mb, r, t, x⟩).mp c
    have pp := print_parse m
    rw [c, if_pos rfl] at p1
    have pq := line_Parse hW (printV ⟨nm, k, v, d, mb, r, t, x⟩) (by omega)
    rw [pp.1] at pq
    repeat' first
      | refine (p1).call ?_
      | refine (pq).call ?_
      | (apply Here.norm; (first | dsimp only [Env.putR, argEnv, pure1, newPtr, applyE, hset, List.length_cons, List.length_nil, List.length_append, List.set, List.cons_append, List.nil_append] | rfl); (first | dsimp only [Env.putR, argEnv, pure1, newPtr, applyE, hset, List.length_cons, List.length_nil, List.length_append, List.set, List.cons_append, List.nil_append] | rfl))
      | refine ⟨_, _, _, _, _, rfl, rfl, rfl, Fits.mk (by first | exact Nat.le_of_ble_eq_true rfl | (dsimp only; omega)), rfl, ?_⟩
      | refine ⟨_, _, _, _, _, rfl, Fits.mk (by first | exact Nat.le_of_ble_eq_true rfl | (dsimp only; omega)), _, rfl, ?_⟩
      | refine ⟨_, rfl, ?_⟩
      | fail
    exact congrArg Value.bool ev_lika
  · rw [if_neg c] at p1
    generalize checkV ⟨nm, k, v, d, mb, r, t, x⟩ = cc at *
    repeat' first
      | refine brP.tN (by omega) ?_
      | refine (p1).call ?_
      | refine (p2).call ?_
      | refine (aw).call ?_
      | (apply Here.norm; (first | dsimp only [Env.putR, argEnv, pure1, newPtr, applyE, hset, List.length_cons, List.length_nil, List.length_append, List.set, List.cons_append, List.nil_append] | rfl); (first | dsimp only [Env.putR, argEnv, pure1, newPtr, applyE, hset, List.length_cons, List.length_nil, List.length_append, List.set, List.cons_append, List.nil_append] | rfl))
      | refine ⟨_, _, _, _, _, rfl, Fits.mk (by first | exact Nat.le_of_ble_eq_true rfl | (dsimp only; omega)), _, rfl, ?_⟩
      | refine ⟨_, rfl, ?_⟩
      | fail
    rfl
end Go.Proofs.YtioahngbfdfcaaaGreatDoor
