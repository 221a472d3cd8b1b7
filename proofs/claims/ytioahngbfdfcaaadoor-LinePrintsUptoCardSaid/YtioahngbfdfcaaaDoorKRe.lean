import Derived.Test.YtioahngbfdfcaaaDoorKRd
set_option linter.unusedVariables false
set_option linter.unusedSimpArgs false
namespace Go.Proofs.YtioahngbfdfcaaaDoor
open Go Go.Den Go.RowKit
variable {W0 : World}
/-! tumblerref02: Text, Of, Print -/
def signT (b : Bool) : List UInt8 := if b = true then [45] else []
set_option maxRecDepth 20000 in
set_option maxHeartbeats 8000000 in
theorem ref2_Text (A : Nat) (hA : A < 18446744073709551616) (b : Bool) : PureF (C W0) I.tumblerref02_Text [mgV A false, .bool b] (.string (bs (signT b ++ (Lib.decDigits (A / 1000000) ++ frac (A % 1000000))))) := by
  have dg := ref2_digits (W0 := W0) A hA
  rw [pad_seven] at dg
  rw [← frac_is]
  have pl := pad_len (k := 6) (b := A % 1000000) (by decide) (by have := Nat.mod_lt A (show 0 < 1000000 by decide); simpa using this)
  have dl : (Lib.decDigits (A / 1000000)).length ≤ 20 := dec_len (k := 19) (by rw [show (10 : Nat) ^ (19 + 1) = 100000000000000000000 by decide]; omega)
  generalize pad 6 (A % 1000000) = F at *
  generalize Lib.decDigits (A / 1000000) = D at *
  have sz := bs_size (D ++ F)
  rw [List.length_append, pl] at sz
  have w1 : IntKind.i64.wrap (((bs (D ++ F)).size : Int) - 6) = (D.length : Int) := by rw [sz, wrap_in (by omega)]; omega
  have x1 : (bs (D ++ F)).extract ((0 : Int)).toNat (IntKind.i64.wrap (((bs (D ++ F)).size : Int) - 6)).toNat = bs D := by
    rw [w1, Int.toNat_natCast, bs_extract]; simp
  have x2 : (bs (D ++ F)).extract (IntKind.i64.wrap (((bs (D ++ F)).size : Int) - 6)).toNat (((bs (D ++ F)).size : Int)).toNat = bs (F.take 6) := by
    rw [w1, Int.toNat_natCast, Int.toNat_natCast, bs_extract, sz]; simp [pl]
  refine PureF.E (CallP.of_body (C_ok W0) B.tumblerref02_Text rfl rfl rfl ?_)
  repeat' first
    | refine (dg).call ?_
    | refine ⟨SlB.mk (by omega) (by omega) (by omega), ?_⟩
    | (apply Here.norm; (first | dsimp only [Env.putR, argEnv, pure1, newPtr, applyE, hset, List.length_cons, List.length_nil, List.length_append, List.set, List.cons_append, List.nil_append] | rfl); (first | dsimp only [Env.putR, argEnv, pure1, newPtr, applyE, hset, List.length_cons, List.length_nil, List.length_append, List.set, List.cons_append, List.nil_append] | rfl))
    | refine ⟨_, _, _, _, _, rfl, Fits.mk (by first | exact Nat.le_of_ble_eq_true rfl | (dsimp only; omega)), _, rfl, ?_⟩
    | fail
  refine loop_I (C_ok W0) (fun n : Nat => n ≤ 6 ∧ stripz (F.take n) = stripz F) (fun n => [(1, .bool b), (6, .string (bs D)), (7, .string (bs (F.take n)))]) (fun _ => []) (fun n => n) 6 ⟨Nat.le_refl _, by rw [List.take_of_length_le (by omega)]⟩ ⟨_, rfl, ?_⟩ ?_
  · dsimp only [List.map]
    refine RT.ren [] rfl rfl ?_ ?_
    all_goals (repeat' first
      | exact trivial
      | exact LTo.nil
      | refine LTo.cons ?_ ?_
      | refine VTo.bool ?_
      | refine VTo.string ?_
      | (with_reducible rfl)
      | fail)
    all_goals first
      | exact x1
      | exact x2
      | rfl
  rintro n ⟨g1, g2⟩
  dsimp only
  have ds := bs_size D
  have zd : (⟨#[46]⟩ : ByteArray).size = 1 := rfl
  have ld : (⟨#[46]⟩ : ByteArray) = bs [46] := rfl
  have zm : (⟨#[45]⟩ : ByteArray).size = 1 := rfl
  have lm : (⟨#[45]⟩ : ByteArray) = bs [45] := rfl
  have ls : (F.take n).length = n := by rw [List.length_take]; omega
  have zs := bs_size (F.take n)
  rw [ls] at zs
  cases n with
  | zero =>
    rw [List.take_zero, stripz_nil] at g2
    rw [← g2, if_pos rfl, List.append_nil]
    cases b with
    | true =>
      repeat' first
        | refine ⟨by (try simp only [ByteArray.size_append]); omega, ?_⟩
        | (apply Here.norm; (first | dsimp only [Env.putR, argEnv, pure1, newPtr, applyE, hset, List.length_cons, List.length_nil, List.length_append, List.set, List.cons_append, List.nil_append] | rfl); (first | dsimp only [Env.putR, argEnv, pure1, newPtr, applyE, hset, List.length_cons, List.length_nil, List.length_append, List.set, List.cons_append, List.nil_append] | rfl))
        | fail
      refine congrArg Value.string ?_
      rw [lm, bs_app]; rfl
    | false =>
      repeat' first
        | (apply Here.norm; (first | dsimp only [Env.putR, argEnv, pure1, newPtr, applyE, hset, List.length_cons, List.length_nil, List.length_append, List.set, List.cons_append, List.nil_append] | rfl); (first | dsimp only [Env.putR, argEnv, pure1, newPtr, applyE, hset, List.length_cons, List.length_nil, List.length_append, List.set, List.cons_append, List.nil_append] | rfl))
        | fail
      rfl
  | succ m =>
    have hm : m < F.length := by omega
    have es : F.take (m + 1) = F.take m ++ [F[m]] := by rw [List.take_add_one, List.getElem?_eq_getElem hm]; rfl
    have w2 : IntKind.i64.wrap (((bs (F.take (m + 1))).size : Int) - 1) = (m : Int) := by rw [zs, wrap_in (by omega)]; omega
    have eb : byteAt (bs (F.take (m + 1))) (m : Int) = ((F[m]).toNat : Int) := by
      rw [byteAt_bs (by omega)]; simp
    rw [es, stripz_snoc] at g2
    by_cases h48 : F[m] = 48
    · rw [if_pos h48] at g2
      have e2 : byteAt (bs (F.take (m + 1))) (IntKind.i64.wrap (((bs (F.take (m + 1))).size : Int) - 1)) = 48 := by rw [w2, eb, h48]; rfl
      repeat' first
        | refine brP.tD (by omega) ?_
        | refine ⟨InB.mk (by omega) (by omega), ?_⟩
        | refine ⟨SlB.mk (by omega) (by omega) (by omega), ?_⟩
        | (apply Here.norm; (first | dsimp only [Env.putR, argEnv, pure1, newPtr, applyE, hset, List.length_cons, List.length_nil, List.length_append, List.set, List.cons_append, List.nil_append] | rfl); (first | dsimp only [Env.putR, argEnv, pure1, newPtr, applyE, hset, List.length_cons, List.length_nil, List.length_append, List.set, List.cons_append, List.nil_append] | rfl))
        | fail
      apply Again.mk m
      · exact ⟨by omega, g2⟩
      · omega
      refine ⟨_, rfl, RT.of_eq ?_ rfl⟩
      have e5 : (bs (F.take (m + 1))).extract ((0 : Int)).toNat (IntKind.i64.wrap (((bs (F.take (m + 1))).size : Int) - 1)).toNat = bs (F.take m) := by
        rw [w2, Int.toNat_natCast, bs_extract]; simp [List.take_take]
      show _ = _
      rw [← e5]; rfl
    · have e2 : byteAt (bs (F.take (m + 1))) (IntKind.i64.wrap (((bs (F.take (m + 1))).size : Int) - 1)) ≠ 48 := by rw [w2, eb]; intro h; exact h48 (UInt8.toNat_inj.mp (by rw [show (48 : UInt8).toNat = 48 from rfl]; omega))
      rw [if_neg h48, ← es] at g2
      rw [← g2, if_neg (by intro h; rw [h] at ls; simp at ls)]
      cases b with
      | true =>
        repeat' first
          | refine brP.tD (by omega) ?_
          | refine brP.fD (by omega) ?_
          | refine ⟨InB.mk (by omega) (by omega), ?_⟩
          | refine ⟨by (try simp only [ByteArray.size_append]); omega, ?_⟩
          | (apply Here.norm; (first | dsimp only [Env.putR, argEnv, pure1, newPtr, applyE, hset, List.length_cons, List.length_nil, List.length_append, List.set, List.cons_append, List.nil_append] | rfl); (first | dsimp only [Env.putR, argEnv, pure1, newPtr, applyE, hset, List.length_cons, List.length_nil, List.length_append, List.set, List.cons_append, List.nil_append] | rfl))
          | fail
        refine congrArg Value.string ?_
        simp only [lm, ld, bs_app, signT, List.append_assoc, List.cons_append, List.nil_append, if_true]
      | false =>
        repeat' first
          | refine brP.tD (by omega) ?_
          | refine brP.fD (by omega) ?_
          | refine ⟨InB.mk (by omega) (by omega), ?_⟩
          | refine ⟨by (try simp only [ByteArray.size_append]); omega, ?_⟩
          | (apply Here.norm; (first | dsimp only [Env.putR, argEnv, pure1, newPtr, applyE, hset, List.length_cons, List.length_nil, List.length_append, List.set, List.cons_append, List.nil_append] | rfl); (first | dsimp only [Env.putR, argEnv, pure1, newPtr, applyE, hset, List.length_cons, List.length_nil, List.length_append, List.set, List.cons_append, List.nil_append] | rfl))
          | fail
        refine congrArg Value.string ?_
        rw [ld, bs_app, bs_app]
        simp [signT]
theorem ref2_Of (v : Int) (hv : Hi v) : PureF (C W0) I.tumblerref02_Of [.int .i64 v] (.tuple #[mgV (v.natAbs : Nat) false, .bool (decide (v < 0))]) := by
  unfold Hi at hv
  refine PureF.E (CallP.of_body (C_ok W0) B.tumblerref02_Of rfl rfl rfl ?_)
  have e0 : ((v.natAbs : Nat) : Int) / 18446744073709551616 = 0 := by omega
  by_cases c : v < 0
  · have e1 : IntKind.u64.wrap (IntKind.u64.wrap (IntKind.i64.wrap (0 - IntKind.i64.wrap (v + 1))) + 1) = ((v.natAbs : Nat) : Int) % 18446744073709551616 := by
      rw [show IntKind.i64.wrap (v + 1) = v + 1 from wrap_in (by omega), wrap_in (by omega), wrap_u64, wrap_u64]; omega
    have ev : mgV ((v.natAbs : Nat) : Int) false = .agg #[.int .u64 0, .int .u64 (IntKind.u64.wrap (IntKind.u64.wrap (IntKind.i64.wrap (0 - IntKind.i64.wrap (v + 1))) + 1)), .bool false] := by
      show Value.agg #[.int .u64 (((v.natAbs : Nat) : Int) / 18446744073709551616), .int .u64 (((v.natAbs : Nat) : Int) % 18446744073709551616), .bool false] = _
      rw [e0, e1]
    rw [decide_eq_true c, ev]
    repeat' first
      | refine brP.tD (by omega) ?_
      | (apply Here.norm; (first | dsimp only [Env.putR, argEnv, pure1, newPtr, applyE, hset, List.length_cons, List.length_nil, List.length_append, List.set, List.cons_append, List.nil_append] | rfl); (first | dsimp only [Env.putR, argEnv, pure1, newPtr, applyE, hset, List.length_cons, List.length_nil, List.length_append, List.set, List.cons_append, List.nil_append] | rfl))
      | refine ⟨_, _, _, _, _, rfl, rfl, rfl, Fits.mk (by first | exact Nat.le_of_ble_eq_true rfl | (dsimp only; omega)), rfl, ?_⟩
      | refine ⟨_, _, _, _, _, rfl, Fits.mk (by first | exact Nat.le_of_ble_eq_true rfl | (dsimp only; omega)), _, rfl, ?_⟩
      | fail
    rfl
  · have e1 : IntKind.u64.wrap v = ((v.natAbs : Nat) : Int) % 18446744073709551616 := by rw [wrap_u64]; omega
    have ev : mgV ((v.natAbs : Nat) : Int) false = .agg #[.int .u64 0, .int .u64 (IntKind.u64.wrap v), .bool false] := by
      show Value.agg #[.int .u64 (((v.natAbs : Nat) : Int) / 18446744073709551616), .int .u64 (((v.natAbs : Nat) : Int) % 18446744073709551616), .bool false] = _
      rw [e0, e1]
    rw [decide_eq_false c, ev]
    repeat' first
      | refine brP.fD (by omega) ?_
      | (apply Here.norm; (first | dsimp only [Env.putR, argEnv, pure1, newPtr, applyE, hset, List.length_cons, List.length_nil, List.length_append, List.set, List.cons_append, List.nil_append] | rfl); (first | dsimp only [Env.putR, argEnv, pure1, newPtr, applyE, hset, List.length_cons, List.length_nil, List.length_append, List.set, List.cons_append, List.nil_append] | rfl))
      | refine ⟨_, _, _, _, _, rfl, rfl, rfl, Fits.mk (by first | exact Nat.le_of_ble_eq_true rfl | (dsimp only; omega)), rfl, ?_⟩
      | refine ⟨_, _, _, _, _, rfl, Fits.mk (by first | exact Nat.le_of_ble_eq_true rfl | (dsimp only; omega)), _, rfl, ?_⟩
      | fail
    rfl
theorem ref2_Print (v : Int) (hv : Hi v) : PureF (C W0) I.tumblerref02_Print [.int .i64 v] (.string (bs (showW v))) := by
  have o := ref2_Of (W0 := W0) v hv
  have t := ref2_Text (W0 := W0) v.natAbs (by unfold Hi at hv; omega) (decide (v < 0))
  have e : signT (decide (v < 0)) ++ (Lib.decDigits (v.natAbs / 1000000) ++ frac (v.natAbs % 1000000)) = showW v := by
    unfold signT showW
    by_cases c : v < 0
    · rw [decide_eq_true c, if_pos rfl, if_pos c]
    · rw [decide_eq_false c, if_neg (by simp), if_neg c]
  rw [e] at t
  refine PureF.E (CallP.of_body (C_ok W0) B.tumblerref02_Print rfl rfl rfl ?_)
  repeat' first
    | refine (o).call ?_
    | refine (t).call ?_
    | (apply Here.norm; (first | dsimp only [Env.putR, argEnv, pure1, newPtr, applyE, hset, List.length_cons, List.length_nil, List.length_append, List.set, List.cons_append, List.nil_append] | rfl); (first | dsimp only [Env.putR, argEnv, pure1, newPtr, applyE, hset, List.length_cons, List.length_nil, List.length_append, List.set, List.cons_append, List.nil_append] | rfl))
    | refine ⟨_, _, _, _, _, rfl, rfl, rfl, Fits.mk (by first | exact Nat.le_of_ble_eq_true rfl | (dsimp only; omega)), rfl, ?_⟩
    | refine ⟨_, _, _, _, _, rfl, Fits.mk (by first | exact Nat.le_of_ble_eq_true rfl | (dsimp only; omega)), _, rfl, ?_⟩
    | refine ⟨_, rfl, ?_⟩
    | fail
  rfl
end Go.Proofs.YtioahngbfdfcaaaDoor
