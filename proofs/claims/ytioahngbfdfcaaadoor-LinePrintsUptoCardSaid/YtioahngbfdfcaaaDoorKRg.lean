import Derived.Test.YtioahngbfdfcaaaDoorKRf
set_option linter.unusedVariables false
set_option linter.unusedSimpArgs false
namespace Go.Proofs.YtioahngbfdfcaaaDoor
open Go Go.Den Go.RowKit
variable {W0 : World}
/-! LinePrints -/
abbrev ev1 : Ev := ⟨[97], 2, 0, true, [], 1000000, false, 0⟩
theorem ev1_may : May ev1 := ⟨by decide, by decide, by decide, fun _ => rfl, fun _ => .inl rfl, fun z => (by cases z), fun z => (by cases z), fun _ => rfl, by decide, fun _ => rfl, fun z => (by cases z), fun _ => rfl⟩
theorem ev1_print : printV ev1 = [97, 58, 43, 48, 124, 103] := by
  have d0 : Lib.decDigits 0 = [48] := dec_small (by decide)
  unfold printV valT rateT timeT showW
  dsimp only
  rw [if_neg (by decide), if_pos ⟨rfl, by decide⟩, if_neg (by decide), if_pos rfl, if_neg (by simp)]
  show _ ++ 58 :: (43 :: ([] ++ (Lib.decDigits 0 ++ frac 0)) ++ barJ _) = _
  rw [d0]; rfl
attribute [local irreducible] checkV printV
set_option maxRecDepth 20000 in
set_option maxHeartbeats 8000000 in
theorem linePrints (hW : WF W0) (hT : Tens W0) (nm : List UInt8) (k v : Int) (d : Bool) (mb : List UInt8) (r : Int) (t : Bool) (x : Int) (h0 : nm.length ≤ 1048576) (h1 : -9223372036854775808 ≤ k ∧ k ≤ 9223372036854775807) (h2 : -9223372036854775808 ≤ v ∧ v ≤ 9223372036854775807)
    (h4 : mb.length ≤ 1048576) (h5 : -9223372036854775808 ≤ r ∧ r ≤ 9223372036854775807) (h7 : -9223372036854775808 ≤ x ∧ x ≤ 9223372036854775807) :
    PureF (C W0) I.tumblerlaw04_LinePrints [.agg #[.string (bs nm), .int .i64 k, .int .i64 v, .bool d, .string (bs mb), .int .i64 r, .bool t, .int .i64 x]] (.bool true) := by
  have p1 := line_Print (W0 := W0) hW hT ⟨nm, k, v, d, mb, r, t, x⟩ h0 h4
  have p2 := ref4_Print (W0 := W0) ⟨nm, k, v, d, mb, r, t, x⟩ h0 h4
  have p3 := line_Print (W0 := W0) hW hT ev1 (by decide) (by decide)
  rw [prV, (check_iff ev1).mpr ev1_may, if_pos rfl, ev1_print] at p3
  unfold prV at p1 p2
  generalize (if checkV ⟨nm, k, v, d, mb, r, t, x⟩ = 0 then printV ⟨nm, k, v, d, mb, r, t, x⟩ else []) = T at *
  generalize checkV ⟨nm, k, v, d, mb, r, t, x⟩ = c at *
  refine PureF.E (CallP.of_body (C_ok W0) B.tumblerlaw04_LinePrints rfl rfl rfl ?_)
  repeat' first
    | refine brP.tD rfl ?_
    | refine (p1).call ?_
    | refine (p2).call ?_
    | refine (p3).call ?_
    | (apply Here.norm; (first | dsimp only [Env.putR, argEnv, pure1, newPtr, applyE, hset, List.length_cons, List.length_nil, List.length_append, List.set, List.cons_append, List.nil_append] | rfl); (first | dsimp only [Env.putR, argEnv, pure1, newPtr, applyE, hset, List.length_cons, List.length_nil, List.length_append, List.set, List.cons_append, List.nil_append] | rfl))
    | refine ⟨_, _, _, _, _, rfl, Fits.mk (by first | exact Nat.le_of_ble_eq_true rfl | (dsimp only; omega)), _, rfl, ?_⟩
    | refine ⟨_, rfl, ?_⟩
    | fail
  rfl
end Go.Proofs.YtioahngbfdfcaaaDoor
