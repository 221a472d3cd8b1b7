import Derived.Test.YtioahngbfdfcaaaDoorKLw
set_option linter.unusedVariables false
set_option linter.unusedSimpArgs false
namespace Go.Proofs.YtioahngbfdfcaaaDoor
open Go Go.Den Go.RowKit
variable {W0 : World}
/-! LineRight -/
theorem ev_like {n m : ByteArray} {k v r t : Int} {d x : Bool} {i1 : Decidable (n = n)} {i2 : Decidable (k = k)} {i3 : Decidable (v = v)} {i4 : Decidable (m = m)} {i5 : Decidable (r = r)} {i6 : Decidable (t = t)} :
    (@decide (n = n) i1 && (@decide (k = k) i2 && (@decide (v = v) i3 && ((d == d) && (@decide (m = m) i4 && (@decide (r = r) i5 && ((x == x) && (@decide (t = t) i6 && true)))))))) = true := by simp
attribute [local irreducible] parseL printV checkV
set_option maxRecDepth 20000 in
set_option maxHeartbeats 8000000 in
theorem lineRight (hW : WF W0) (hT : Tens W0) (s : List UInt8) (hs : s.length ≤ 1048576) : PureF (C W0) I.tumblerlaw04_LineRight [.string (bs s)] (.bool true) := by
  have aw := awake hW
  have ps := line_Parse hW s hs
  have pm := parse_may (s := s)
  have pb := parse_bad (s := s)
  refine PureF.E (CallP.of_body (C_ok W0) B.tumblerlaw04_LineRight rfl rfl rfl ?_)
  generalize parseL s = z at *
  obtain ⟨e, p, c⟩ := z
  dsimp only at *
  by_cases h : c = 0
  · subst h
    have m := pm rfl
    have nl := okName_len m.name
    have ml : e.member.length ≤ 100 := by
      by_cases k4 : e.kind = 4
      · exact (mem_bar (m.set k4).2).2
      · rw [m.member k4]; decide
    have ck := line_Check (W0 := W0) hW e (by omega) (by omega)
    have pr := line_Print (W0 := W0) hW hT e (by omega) (by omega)
    have c0 := (check_iff e).mpr m
    have pp := print_parse m
    rw [prV, c0, if_pos rfl] at pr
    rw [c0] at ck
    have pq := line_Parse hW (printV e) (by omega)
    rw [pp.1] at pq
    repeat' first
      | refine (aw).call ?_
      | refine (ps).call ?_
      | refine (pr).call ?_
      | refine (pq).call ?_
      | refine (ck).call ?_
      | (apply Here.norm; (first | dsimp only [Env.putR, argEnv, pure1, newPtr, applyE, hset, List.length_cons, List.length_nil, List.length_append, List.set, List.cons_append, List.nil_append] | rfl); (first | dsimp only [Env.putR, argEnv, pure1, newPtr, applyE, hset, List.length_cons, List.length_nil, List.length_append, List.set, List.cons_append, List.nil_append] | rfl))
      | refine ⟨_, _, _, _, _, rfl, rfl, rfl, Fits.mk (by first | exact Nat.le_of_ble_eq_true rfl | (dsimp only; omega)), rfl, ?_⟩
      | refine ⟨_, _, _, _, _, rfl, Fits.mk (by first | exact Nat.le_of_ble_eq_true rfl | (dsimp only; omega)), _, rfl, ?_⟩
      | refine ⟨_, rfl, ?_⟩
      | fail
    exact congrArg Value.bool ev_like
  · have e0 := pb h
    subst e0
    repeat' first
      | refine brP.tN (by omega) ?_
      | refine (aw).call ?_
      | refine (ps).call ?_
      | (apply Here.norm; (first | dsimp only [Env.putR, argEnv, pure1, newPtr, applyE, hset, List.length_cons, List.length_nil, List.length_append, List.set, List.cons_append, List.nil_append] | rfl); (first | dsimp only [Env.putR, argEnv, pure1, newPtr, applyE, hset, List.length_cons, List.length_nil, List.length_append, List.set, List.cons_append, List.nil_append] | rfl))
      | refine ⟨_, _, _, _, _, rfl, rfl, rfl, Fits.mk (by first | exact Nat.le_of_ble_eq_true rfl | (dsimp only; omega)), rfl, ?_⟩
      | refine ⟨_, _, _, _, _, rfl, Fits.mk (by first | exact Nat.le_of_ble_eq_true rfl | (dsimp only; omega)), _, rfl, ?_⟩
      | refine ⟨_, rfl, ?_⟩
      | fail
    exact congrArg Value.bool ev_like
end Go.Proofs.YtioahngbfdfcaaaDoor
