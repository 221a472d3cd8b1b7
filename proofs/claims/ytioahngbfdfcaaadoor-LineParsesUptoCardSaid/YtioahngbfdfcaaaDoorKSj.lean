import Derived.Test.YtioahngbfdfcaaaDoorKSi
import Derived.Test.YtioahngbfdfcaaaDoorKLf
set_option linter.unusedVariables false
set_option linter.unusedSimpArgs false
namespace Go.Proofs.YtioahngbfdfcaaaDoor
open Go Go.Den Go.RowKit
variable {W0 : World}
/-! LineParses -/
theorem ev_like3 {n m : ByteArray} {k v r t : Int} {d x : Bool} {i1 : Decidable (n = n)} {i2 : Decidable (k = k)} {i3 : Decidable (v = v)} {i4 : Decidable (m = m)} {i5 : Decidable (r = r)} {i6 : Decidable (t = t)} :
    (@decide (n = n) i1 && (@decide (k = k) i2 && (@decide (v = v) i3 && ((d == d) && (@decide (m = m) i4 && (@decide (r = r) i5 && ((x == x) && (@decide (t = t) i6 && true)))))))) = true := by simp
attribute [local irreducible] parseL
set_option maxRecDepth 20000 in
set_option maxHeartbeats 8000000 in
theorem lineParses (hW : WF W0) (s : List UInt8) (hs : s.length ≤ 1048576) : PureF (C W0) I.tumblerlaw04_LineParses [.string (bs s)] (.bool true) := by
  have aw := awake hW
  have ps := line_Parse hW s hs
  have pr := ref4_Parse (W0 := W0) s hs
  refine PureF.E (CallP.of_body (C_ok W0) B.tumblerlaw04_LineParses rfl rfl rfl ?_)
  generalize parseL s = z at *
  obtain ⟨e, p, c⟩ := z
  dsimp only [answ] at *
  repeat' first
    | refine brP.t ev_like3 ?_
    | refine brP.tD (by omega) ?_
    | refine (aw).call ?_
    | refine (ps).call ?_
    | refine (pr).call ?_
    | (apply Here.norm; (first | dsimp only [Env.putR, argEnv, pure1, newPtr, applyE, hset, List.length_cons, List.length_nil, List.length_append, List.set, List.cons_append, List.nil_append] | rfl); (first | dsimp only [Env.putR, argEnv, pure1, newPtr, applyE, hset, List.length_cons, List.length_nil, List.length_append, List.set, List.cons_append, List.nil_append] | rfl))
    | refine ⟨_, _, _, _, _, rfl, rfl, rfl, Fits.mk (by first | exact Nat.le_of_ble_eq_true rfl | (dsimp only; omega)), rfl, ?_⟩
    | refine ⟨_, _, _, _, _, rfl, Fits.mk (by first | exact Nat.le_of_ble_eq_true rfl | (dsimp only; omega)), _, rfl, ?_⟩
    | refine ⟨_, rfl, ?_⟩
    | fail
  first
    | rfl
    | exact congrArg Value.bool (decide_eq_true rfl)
    | exact congrArg Value.bool ev_like3
end Go.Proofs.YtioahngbfdfcaaaDoor
