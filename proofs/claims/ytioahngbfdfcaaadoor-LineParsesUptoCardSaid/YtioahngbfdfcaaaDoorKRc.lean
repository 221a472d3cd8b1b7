import Derived.Test.YtioahngbfdfcaaaDoorKWd
import Derived.Test.YtioahngbfdfcaaaDoorKPt
set_option linter.unusedVariables false
set_option linter.unusedSimpArgs false
namespace Go.Proofs.YtioahngbfdfcaaaDoor
open Go Go.Den Go.RowKit
variable {W0 : World}
/-! tumblerref02: By -/
abbrev mgL (A : Int) (o : Bool) : List Value := [.int .u64 (A / 18446744073709551616), .int .u64 (A % 18446744073709551616), .bool o]
abbrev mgV (A : Int) (o : Bool) : Value := .agg (mgL A o).toArray
abbrev mgB (A : Int) (o : Bool) : ABlk := .cells (mgL A o) 1 true false Y.tumblerref02_Mag
theorem mg_eq {a b A : Int} {b0 b1 : ABlk} (h1 : a = A / 18446744073709551616) (h2 : b = A % 18446744073709551616) :
    [b0, b1, .cells [.int .u64 a, .int .u64 b, .bool false] 1 true false Y.tumblerref02_Mag] = [b0, b1, mgB A false] := by rw [h1, h2]
set_option maxRecDepth 20000 in
set_option maxHeartbeats 8000000 in
theorem ref2_By (A n : Int) (o : Bool) (hA : 0 ≤ A) (hA' : A < 340282366920938463463374607431768211456) (hn : 0 < n) (hn' : n < 9223372036854775808) :
    PureF (C W0) I.tumblerref02_By [mgV A o, .int .u64 n] (.tuple #[mgV (A / n) false, .int .u64 (A % n)]) := by
  refine PureF.E (CallP.of_body (C_ok W0) B.tumblerref02_By rfl rfl rfl ?_)
  repeat' first
    | refine brP.fD (by omega) ?_
    | (apply Here.norm; (first | dsimp only [Env.putR, argEnv, pure1, newPtr, applyE, hset, List.length_cons, List.length_nil, List.length_append, List.set, List.cons_append, List.nil_append] | rfl); (first | dsimp only [Env.putR, argEnv, pure1, newPtr, applyE, hset, List.length_cons, List.length_nil, List.length_append, List.set, List.cons_append, List.nil_append] | rfl))
    | refine ⟨_, _, _, _, _, rfl, rfl, rfl, Fits.mk (by first | exact Nat.le_of_ble_eq_true rfl | (dsimp only; omega)), rfl, ?_⟩
    | fail
  refine loop_I (C_ok W0) (fun m : Nat => m ≤ 128)
    (fun m => [(1, .int .u64 n), (2, .pointer (some ⟨0, 0, none⟩)), (4, .pointer (some ⟨1, 0, none⟩)), (6, .pointer (some ⟨2, 0, none⟩)), (7, .int .u64 (A / 2 ^ m % n)), (8, .int .i64 ((m : Int) - 1))])
    (fun m => [mgB A o, mgB 0 false, mgB (A / 2 ^ m / n * 2 ^ m) false]) (fun m => m) 128 (Nat.le_refl _) ⟨_, rfl, ?_⟩ ?_
  · have e : A / 2 ^ 128 = 0 := Int.ediv_eq_zero_of_lt hA hA'
    rw [e, Int.zero_emod, Int.zero_ediv, Int.zero_mul]
    exact RT.of_eq rfl rfl
  · intro m hm
    dsimp only
    cases m with
    | zero =>
      repeat' first
        | (apply Here.norm; (first | dsimp only [Env.putR, argEnv, pure1, newPtr, applyE, hset, List.length_cons, List.length_nil, List.length_append, List.set, List.cons_append, List.nil_append] | rfl); (first | dsimp only [Env.putR, argEnv, pure1, newPtr, applyE, hset, List.length_cons, List.length_nil, List.length_append, List.set, List.cons_append, List.nil_append] | rfl))
        | refine ⟨_, _, _, _, _, rfl, rfl, rfl, Fits.mk (by first | exact Nat.le_of_ble_eq_true rfl | (dsimp only; omega)), rfl, ?_⟩
        | refine ⟨_, _, _, _, _, rfl, Fits.mk (by first | exact Nat.le_of_ble_eq_true rfl | (dsimp only; omega)), _, rfl, ?_⟩
        | fail
      have e : A / 2 ^ (0 : Nat) = A := by simp
      rw [e, Int.pow_zero, Int.mul_one]; rfl
    | succ k =>
      have hk : k < 128 := by omega
      have hk1 : ((k + 1 : Nat) : Int) - 1 = (k : Int) := by omega
      have hnext : IntKind.i64.wrap ((k : Int) - 1) = (k : Int) - 1 := by rw [wr_i64]; omega
      have M := round_math A n k hk hA hA' hn (by omega) _ _ rfl rfl
      rw [hk1]
      have hr := tmod_at k
      have r0 := Int.emod_nonneg (A / 2 ^ (k + 1)) (show n ≠ 0 by omega)
      have r1 := Int.emod_lt_of_pos (A / 2 ^ (k + 1)) hn
      obtain ⟨q0, q1, qd⟩ := quo_room A n k hA hA' hn
      generalize A / 2 ^ (k + 1) % n = r at *
      generalize A / 2 ^ (k + 1) / n * 2 ^ (k + 1) = Q at *
      have hb0 : A / 2 ^ k % 2 = 0 ∨ A / 2 ^ k % 2 = 1 := by omega
      have T1 : IntKind.u64.wrap (IntKind.u64.wrap (r * 2) + A / 2 ^ k % 2) = 2 * r + A / 2 ^ k % 2 := by rw [wrap_u64, wrap_u64]; omega
      generalize hS : 2 * r + A / 2 ^ k % 2 = S at *
      rcases Nat.lt_or_ge k 64 with c | c
      · have bl := bit_low A k c
        rw [← hr] at bl
        rw [← bl] at T1
        obtain ⟨⟨M0, M1⟩, Mn, My⟩ := M
        by_cases hs : n ≤ S
        · obtain ⟨y1, y2, y3⟩ := My hs
          obtain ⟨s1, s2⟩ := set_low Q k c q0 qd
          have w2 : IntKind.u64.wrap (S - n) = A / 2 ^ k % n := by rw [wrap_u64, y1]; omega
          have sh : shlV .u64 1 (IntKind.u64.wrap ((k : Int).tmod 64)) = 2 ^ k := by
            rw [hr, shl_one _ (by omega) (by omega), Int.toNat_natCast, show k % 64 = k by omega]
          repeat' first
            | refine brP.tD (by omega) ?_
            | refine brP.fD (by omega) ?_
            | refine ⟨ShB.mk (by rw [hr]; omega), ?_⟩
            | rw [T1]
            | (apply Here.norm; (first | dsimp only [Env.putR, argEnv, pure1, newPtr, applyE, hset, List.length_cons, List.length_nil, List.length_append, List.set, List.cons_append, List.nil_append] | rfl); (first | dsimp only [Env.putR, argEnv, pure1, newPtr, applyE, hset, List.length_cons, List.length_nil, List.length_append, List.set, List.cons_append, List.nil_append] | rfl))
            | refine ⟨_, _, _, _, _, rfl, rfl, rfl, Fits.mk (by first | exact Nat.le_of_ble_eq_true rfl | (dsimp only; omega)), rfl, ?_⟩
            | refine ⟨_, _, _, _, _, rfl, _, rfl, ?_⟩
            | refine ⟨NzB.mk (by first | decide | omega), ?_⟩
            | refine ⟨by decide, ?_⟩
            | fail
          apply Again.mk k
          · omega
          · omega
          refine ⟨_, rfl, RT.of_eq (by rw [hnext, w2]; rfl) ?_⟩
          exact mg_eq (by rw [y2, s2]) (by rw [sh, s1, y2])
        · obtain ⟨y1, y2, y3⟩ := Mn hs
          repeat' first
            | refine brP.fD (by omega) ?_
            | refine ⟨ShB.mk (by rw [hr]; omega), ?_⟩
            | rw [T1]
            | (apply Here.norm; (first | dsimp only [Env.putR, argEnv, pure1, newPtr, applyE, hset, List.length_cons, List.length_nil, List.length_append, List.set, List.cons_append, List.nil_append] | rfl); (first | dsimp only [Env.putR, argEnv, pure1, newPtr, applyE, hset, List.length_cons, List.length_nil, List.length_append, List.set, List.cons_append, List.nil_append] | rfl))
            | refine ⟨_, _, _, _, _, rfl, _, rfl, ?_⟩
            | refine ⟨NzB.mk (by first | decide | omega), ?_⟩
            | refine ⟨by decide, ?_⟩
            | fail
          apply Again.mk k
          · omega
          · omega
          refine ⟨_, rfl, RT.of_eq (by rw [hnext, y1]; rfl) ?_⟩
          exact mg_eq (by rw [y2]) (by rw [y2])
      · have bh := bit_high A k hA hA' c hk
        rw [← hr] at bh
        rw [← bh] at T1
        obtain ⟨⟨M0, M1⟩, Mn, My⟩ := M
        by_cases hs : n ≤ S
        · obtain ⟨y1, y2, y3⟩ := My hs
          obtain ⟨s1, s2⟩ := set_high Q k c hk q0 q1 qd
          have w2 : IntKind.u64.wrap (S - n) = A / 2 ^ k % n := by rw [wrap_u64, y1]; omega
          have sh : shlV .u64 1 (IntKind.u64.wrap ((k : Int).tmod 64)) = 2 ^ (k - 64) := by
            rw [hr, shl_one _ (by omega) (by omega), Int.toNat_natCast, show k % 64 = k - 64 by omega]
          repeat' first
            | refine brP.tD (by omega) ?_
            | refine ⟨ShB.mk (by rw [hr]; omega), ?_⟩
            | rw [T1]
            | (apply Here.norm; (first | dsimp only [Env.putR, argEnv, pure1, newPtr, applyE, hset, List.length_cons, List.length_nil, List.length_append, List.set, List.cons_append, List.nil_append] | rfl); (first | dsimp only [Env.putR, argEnv, pure1, newPtr, applyE, hset, List.length_cons, List.length_nil, List.length_append, List.set, List.cons_append, List.nil_append] | rfl))
            | refine ⟨_, _, _, _, _, rfl, rfl, rfl, Fits.mk (by first | exact Nat.le_of_ble_eq_true rfl | (dsimp only; omega)), rfl, ?_⟩
            | refine ⟨_, _, _, _, _, rfl, _, rfl, ?_⟩
            | refine ⟨NzB.mk (by first | decide | omega), ?_⟩
            | refine ⟨by decide, ?_⟩
            | fail
          apply Again.mk k
          · omega
          · omega
          refine ⟨_, rfl, RT.of_eq (by rw [hnext, w2]; rfl) ?_⟩
          exact mg_eq (by rw [sh, s1, y2]) (by rw [y2, s2])
        · obtain ⟨y1, y2, y3⟩ := Mn hs
          repeat' first
            | refine brP.tD (by omega) ?_
            | refine brP.fD (by omega) ?_
            | refine ⟨ShB.mk (by rw [hr]; omega), ?_⟩
            | rw [T1]
            | (apply Here.norm; (first | dsimp only [Env.putR, argEnv, pure1, newPtr, applyE, hset, List.length_cons, List.length_nil, List.length_append, List.set, List.cons_append, List.nil_append] | rfl); (first | dsimp only [Env.putR, argEnv, pure1, newPtr, applyE, hset, List.length_cons, List.length_nil, List.length_append, List.set, List.cons_append, List.nil_append] | rfl))
            | refine ⟨_, _, _, _, _, rfl, _, rfl, ?_⟩
            | refine ⟨NzB.mk (by first | decide | omega), ?_⟩
            | refine ⟨by decide, ?_⟩
            | fail
          apply Again.mk k
          · omega
          · omega
          refine ⟨_, rfl, RT.of_eq (by rw [hnext, y1]; rfl) ?_⟩
          exact mg_eq (by rw [y2]) (by rw [y2])
end Go.Proofs.YtioahngbfdfcaaaDoor
