import Derived.Test.YtkocmbgpiidkdaaGreatDoorKWm
set_option linter.unusedVariables false
set_option linter.unusedSimpArgs false
namespace Go.Proofs.YtkocmbgpiidkdaaGreatDoor
open Go Go.Den
abbrev W64 : Int := 18446744073709551616
abbrev wv (v : Int) : Value := .agg #[.int .i64 (v / 18446744073709551616), .int .u64 (v % 18446744073709551616)]
abbrev av (m : Int) : Value := .agg #[.int .u64 (m % 18446744073709551616), .int .u64 (m / 18446744073709551616)]
theorem wv_af (v : Int) : AF (wv v) := .agg (by simp [AF.int])
theorem av_af (v : Int) : AF (av v) := .agg (by simp [AF.int])
theorem ag2 {j k : IntKind} {a b c d : Int} (h1 : a = c) (h2 : b = d) : Value.agg #[.int j a, .int k b] = .agg #[.int j c, .int k d] := by rw [h1, h2]
theorem tu2 {a b c d : Value} (h1 : a = c) (h2 : b = d) : Value.tuple #[a, b] = .tuple #[c, d] := by rw [h1, h2]
theorem tu3 {a b c d x y : Value} (h1 : a = c) (h2 : b = d) (h3 : x = y) : Value.tuple #[a, b, x] = .tuple #[c, d, y] := by rw [h1, h2, h3]
theorem vi {k : IntKind} {a b : Int} (h : a = b) : Value.int k a = .int k b := by rw [h]
theorem vb {a b : Bool} (h : a = b) : Value.bool a = .bool b := by rw [h]
theorem wr_u64 (n : Int) : IntKind.u64.wrap n = n % 18446744073709551616 := by simp [IntKind.wrap, IntKind.bits, IntKind.signed]
theorem shr63 (n : Int) (h : Hi n) : shrV .i64 n 63 = n / 18446744073709551616 := by
  unfold Hi at h
  have : shrV .i64 n 63 = n / 9223372036854775808 := by
    show n.fdiv (2 ^ (min 63 64)) = _
    rw [Int.fdiv_eq_ediv_of_nonneg _ (by decide)]
    rfl
  omega
theorem U0 : U 0 := by unfold U; omega
theorem subHi_is (x y c : Int) (hx : U x) (hy : U y) (hc : 0 ≤ c) (hc' : c ≤ 1) : subHi x y c = if x < y + c then 1 else 0 := by
  unfold U at *
  rw [subHi_def]
  by_cases h : x < y + c
  · rw [if_pos h, if_pos (by omega)]; rfl
  · rw [if_neg h, if_neg (by omega)]; rfl
theorem subHi_le (x y c : Int) : subHi x y c ≤ 1 := by rw [subHi_def]; split <;> decide
theorem subHi_ge (x y c : Int) : 0 ≤ subHi x y c := by rw [subHi_def]; split <;> decide
theorem subLo_is (x y c : Int) (hx : U x) (hy : U y) (hc : 0 ≤ c) (hc' : c ≤ 1) : subLo x y c = (x - y - c) % 18446744073709551616 := by
  unfold U at *
  rw [subLo_def]
  omega
theorem addLo_is (x y c : Int) (hx : U x) (hy : U y) (hc : 0 ≤ c) (hc' : c ≤ 1) : addLo x y c = (x + y + c) % 18446744073709551616 := by
  unfold U at *
  rw [addLo_def]
  omega
theorem addHi_is (x y c : Int) (hx : U x) (hy : U y) (hc : 0 ≤ c) (hc' : c ≤ 1) : addHi x y c = (x + y + c) / 18446744073709551616 := by
  unfold U at *
  rw [addHi_def]
  omega
/-- The difference of two wide words, low and high. -/
theorem sub2 (a b : Int) : subLo (a % 18446744073709551616) (b % 18446744073709551616) 0 = (a - b) % 18446744073709551616 ∧
    subLo (a / 18446744073709551616 % 18446744073709551616) (b / 18446744073709551616 % 18446744073709551616) (subHi (a % 18446744073709551616) (b % 18446744073709551616) 0) = (a - b) / 18446744073709551616 % 18446744073709551616 := by
  rw [subLo_is _ _ _ (U_mod a) (U_mod b) (by omega) (by omega), subLo_is _ _ _ (U_mod _) (U_mod _) (subHi_ge _ _ _) (subHi_le _ _ _), subHi_is _ _ _ (U_mod a) (U_mod b) (by omega) (by omega)]
  refine ⟨by omega, ?_⟩
  split <;> omega
theorem add2 (a b : Int) : addLo (a % 18446744073709551616) (b % 18446744073709551616) 0 = (a + b) % 18446744073709551616 ∧ addHi (a % 18446744073709551616) (b % 18446744073709551616) 0 ≤ 1 ∧
    addLo (a / 18446744073709551616 % 18446744073709551616) (b / 18446744073709551616 % 18446744073709551616) (addHi (a % 18446744073709551616) (b % 18446744073709551616) 0) = (a + b) / 18446744073709551616 % 18446744073709551616 := by
  have e := addHi_is _ _ 0 (U_mod a) (U_mod b) (by omega) (by omega)
  rw [addLo_is _ _ _ (U_mod a) (U_mod b) (by omega) (by omega), e, addLo_is _ _ _ (U_mod _) (U_mod _) (by omega) (by omega)]
  omega
/-- The wide number of an answer that may lie out of reach, and the error's number. -/
def wenc (x : Int) : Int × Int := if R x then (x, 0) else (0, 10)
abbrev wev (x : Int) : Value := .tuple #[wv (wenc x).1, .int .i64 (wenc x).2]
theorem wenc_in {x : Int} (h : R x) : wenc x = (x, 0) := if_pos h
theorem wenc_out {x : Int} (h : ¬ R x) : wenc x = (0, 10) := if_neg h
theorem wev_af (v : Int) : AF (wev v) := .tuple (by simp [wv_af, AF.int])
theorem wev_in {x a b : Int} (h : R x) (h1 : a = x / 18446744073709551616) (h2 : b = x % 18446744073709551616) : Value.tuple #[.agg #[.int .i64 a, .int .u64 b], .int .i64 0] = wev x := by
  rw [wev, wenc_in h, h1, h2]
theorem wev_out {x : Int} (h : ¬ R x) : Value.tuple #[.agg #[.int .i64 0, .int .u64 0], .int .i64 10] = wev x := by
  rw [wev, wenc_out h]; rfl
variable {W0 : World}
theorem wide_Of (n : Int) (hn : Hi n) : PureF (C W0) I.wide_Of [.int .i64 n] (wv n) := by
  refine PureF.E (CallP.of_body (C_ok W0) B.wide_Of rfl rfl rfl ?_)
  repeat' first
    | refine ag2 ?_ ?_
    | (apply Here.norm; (first | dsimp only [Env.putR, argEnv, pure1, newPtr, applyE, hset, List.length_cons, List.length_nil, List.length_append, List.set, List.cons_append, List.nil_append] | rfl); (first | dsimp only [Env.putR, argEnv, pure1, newPtr, applyE, hset, List.length_cons, List.length_nil, List.length_append, List.set, List.cons_append, List.nil_append] | rfl))
    | refine ⟨_, _, _, _, _, rfl, rfl, rfl, Fits.mk (by first | exact Nat.le_of_ble_eq_true rfl | (dsimp only; omega)), rfl, ?_⟩
    | refine ⟨_, _, _, _, _, rfl, Fits.mk (by first | exact Nat.le_of_ble_eq_true rfl | (dsimp only; omega)), _, rfl, ?_⟩
    | refine ⟨ShB.mk (by first | decide | omega), ?_⟩
    | fail
  · exact shr63 n hn
  · exact wr_u64 n
theorem wide_Small (n : Int) (hn : R n) : PureF (C W0) I.wide_Small [wv n] (.tuple #[.int .i64 (if Hi n then n else 0), .bool (decide (Hi n))]) := by
  refine PureF.E (CallP.of_body (C_ok W0) B.wide_Small rfl rfl rfl ?_)
  have hq : Hi (IntKind.i64.wrap (n % 18446744073709551616)) := by rw [wr_i64]; unfold Hi; omega
  repeat' first
    | refine .inl ⟨_, wide_Of _ hq, ?_⟩
    | (apply Here.norm; (first | dsimp only [Env.putR, argEnv, pure1, newPtr, applyE, hset, List.length_cons, List.length_nil, List.length_append, List.set, List.cons_append, List.nil_append] | rfl); (first | dsimp only [Env.putR, argEnv, pure1, newPtr, applyE, hset, List.length_cons, List.length_nil, List.length_append, List.set, List.cons_append, List.nil_append] | rfl))
    | refine brP.intro (fun h => ?_) (fun h => ?_)
    | refine ⟨_, _, _, _, _, rfl, _, rfl, ?_⟩
    | refine ⟨_, _, _, _, _, rfl, Fits.mk (by first | exact Nat.le_of_ble_eq_true rfl | (dsimp only; omega)), _, rfl, ?_⟩
    | refine draw_go (C_ok W0) (by kernel_rfl) ?_
    | refine ⟨cpt_ok (by kernel_rfl), ?_⟩
    | refine ⟨by decide, ?_⟩
    | fail
  · replace h : ¬ Hi n := by
      simp only [wr_i64, Bool.and_true, Bool.not_eq_true', Bool.and_eq_false_iff, decide_eq_false_iff_not] at h
      unfold Hi; omega
    rw [if_neg h, decide_eq_false h]; rfl
  · replace h : Hi n ∧ IntKind.i64.wrap (n % 18446744073709551616) = n := by
      simp only [wr_i64, Bool.and_true, Bool.not_eq_false', Bool.and_eq_true, decide_eq_true_eq] at h
      unfold Hi R at *
      rw [wr_i64]; omega
    rw [if_pos h.1, decide_eq_true h.1]
    exact congrArg (fun x => Value.tuple #[.int .i64 x, .bool true]) h.2
theorem wide_amount (n : Int) (hn : R n) : PureF (C W0) I.wide_amount [wv n] (av (mag n)) := by
  have em : mag n = if n < 0 then -n else n := rfl
  have em' : mag n = (n.natAbs : Int) := by rw [em]; split <;> omega
  rw [em']
  refine PureF.E (CallP.of_body (C_ok W0) B.wide_amount rfl rfl rfl ?_)
  unfold R at hn
  have key := sub2 0 n
  repeat' first
    | refine ag2 ?_ ?_
    | (apply Here.norm; (first | dsimp only [Env.putR, argEnv, pure1, newPtr, applyE, hset, List.length_cons, List.length_nil, List.length_append, List.set, List.cons_append, List.nil_append] | rfl); (first | dsimp only [Env.putR, argEnv, pure1, newPtr, applyE, hset, List.length_cons, List.length_nil, List.length_append, List.set, List.cons_append, List.nil_append] | rfl))
    | refine brP.introD (fun h => ?_) (fun h => ?_)
    | refine ⟨_, _, _, _, _, rfl, rfl, rfl, Fits.mk (by first | exact Nat.le_of_ble_eq_true rfl | (dsimp only; omega)), rfl, ?_⟩
    | refine ⟨_, _, _, _, _, rfl, _, rfl, ?_⟩
    | refine ⟨_, _, _, _, _, rfl, Fits.mk (by first | exact Nat.le_of_ble_eq_true rfl | (dsimp only; omega)), _, rfl, ?_⟩
    | refine ⟨by decide, ?_⟩
    | refine ⟨subHi_le _ _ _, ?_⟩
    | refine ⟨_, rfl, ?_⟩
    | fail
  · have := h; omega
  · have := h; rw [wr_u64]; omega
  · have := h
    show subLo 0 (n % 18446744073709551616) 0 = _
    have k1 := key.1
    simp only [Int.zero_emod] at k1
    rw [k1]; omega
  · have := h
    show subLo 0 (IntKind.u64.wrap (n / 18446744073709551616)) (subHi 0 (n % 18446744073709551616) 0) = _
    have k2 := key.2
    simp only [Int.zero_emod, Int.zero_ediv] at k2
    rw [wr_u64, k2]; omega
theorem wide_signed (m : Int) (hm : 0 ≤ m) (hm' : m < 340282366920938463463374607431768211456) (b : Bool) : PureF (C W0) I.wide_signed [av m, .bool b] (wev (if b = true then -m else m)) := by
  refine PureF.E (CallP.of_body (C_ok W0) B.wide_signed rfl rfl rfl ?_)
  have key := sub2 0 m
  simp only [Int.zero_emod, Int.zero_ediv, Int.emod_emod_of_dvd, Int.zero_sub] at key
  have e2 : m / 18446744073709551616 % 18446744073709551616 = m / 18446744073709551616 := by omega
  rw [e2] at key
  obtain ⟨k1, k2⟩ := key
  repeat' first
    | refine wev_out ?_
    | refine wev_in ?_ ?_ ?_
    | (apply Here.norm; (first | dsimp only [Env.putR, argEnv, pure1, newPtr, applyE, hset, List.length_cons, List.length_nil, List.length_append, List.set, List.cons_append, List.nil_append] | rfl); (first | dsimp only [Env.putR, argEnv, pure1, newPtr, applyE, hset, List.length_cons, List.length_nil, List.length_append, List.set, List.cons_append, List.nil_append] | rfl))
    | refine brP.introD (fun h => ?_) (fun h => ?_)
    | refine brP.intro (fun h => ?_) (fun h => ?_)
    | refine ⟨_, _, _, _, _, rfl, rfl, rfl, Fits.mk (by first | exact Nat.le_of_ble_eq_true rfl | (dsimp only; omega)), rfl, ?_⟩
    | refine ⟨_, _, _, _, _, rfl, _, rfl, ?_⟩
    | refine ⟨_, _, _, _, _, rfl, Fits.mk (by first | exact Nat.le_of_ble_eq_true rfl | (dsimp only; omega)), _, rfl, ?_⟩
    | refine ⟨InB.mk (by first | decide | omega) (by first | decide | omega), ?_⟩
    | refine ⟨by decide, ?_⟩
    | refine ⟨subHi_le _ _ _, ?_⟩
    | refine ⟨_, rfl, ?_⟩
    | fail
  all_goals (try rw [wr_i64])
  all_goals (first | show _ = subLo _ _ _ ∧ _ | skip)
  all_goals (try simp only [decide_eq_true_eq, decide_eq_false_iff_not] at *)
  all_goals (subst_vars)
  all_goals (try simp only [if_true, Bool.false_eq_true, if_false, reduceIte])
  all_goals (try rw [k1])
  all_goals (try rw [k2])
  all_goals (try unfold R)
  all_goals omega
end Go.Proofs.YtkocmbgpiidkdaaGreatDoor
