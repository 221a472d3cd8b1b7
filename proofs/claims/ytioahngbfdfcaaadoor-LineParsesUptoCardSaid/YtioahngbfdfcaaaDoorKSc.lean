import Derived.Test.YtioahngbfdfcaaaDoorKSb
set_option linter.unusedVariables false
set_option linter.unusedSimpArgs false
namespace Go.Proofs.YtioahngbfdfcaaaDoor
open Go Go.Den Go.RowKit
variable {W0 : World}
/-! tumblerref02: Worth -/
theorem wst_lt (l : List UInt8) : ∀ (A : Int), 0 ≤ A → (∀ c ∈ l, 48 ≤ c.toNat ∧ c.toNat ≤ 57) → tooBig A = false → 0 ≤ (wst l A).1 ∧ tooBig (wst l A).1 = false := by
  induction l with
  | nil => intro A h0 _ h; exact ⟨h0, h⟩
  | cons c t ih =>
    intro A h0 hd h
    have hc := hd c (by simp)
    rw [wst]
    by_cases q : tooBig (A * 10 + ((c.toNat : Int) - 48)) = true
    · rw [if_pos q]
      unfold lowBig tooBig
      exact ⟨by dsimp only; omega, decide_eq_false (by dsimp only; omega)⟩
    · rw [if_neg q]
      exact ih _ (by omega) (fun x hx => hd x (List.mem_cons_of_mem _ hx)) (by simpa using q)
set_option maxRecDepth 20000 in
set_option maxHeartbeats 8000000 in
theorem ref2_Worth (b : Bool) (W F : List UInt8) (hW : W.length ≤ 1048576) (hF : F.length ≤ 6) (dW : ∀ c ∈ W, 48 ≤ c.toNat ∧ c.toNat ≤ 57) (dF : ∀ c ∈ F, 48 ≤ c.toNat ∧ c.toNat ≤ 57) :
    PureF (C W0) I.tumblerref02_Worth [dcV (b, W, F)] (mgV (wst (allT (b, W, F)) 0).1 (wst (allT (b, W, F)) 0).2) := by
  have s1 := bs_size W
  have s2 := bs_size F
  have z0 : (⟨#[48]⟩ : ByteArray).size = 1 := rfl
  have l0 : (⟨#[48]⟩ : ByteArray) = bs [48] := rfl
  refine PureF.E (CallP.of_body (C_ok W0) B.tumblerref02_Worth rfl rfl rfl ?_)
  repeat' first
    | refine ⟨by (try simp only [ByteArray.size_append]); omega, ?_⟩
    | (apply Here.norm; (first | dsimp only [Env.putR, argEnv, pure1, newPtr, applyE, hset, List.length_cons, List.length_nil, List.length_append, List.set, List.cons_append, List.nil_append] | rfl); (first | dsimp only [Env.putR, argEnv, pure1, newPtr, applyE, hset, List.length_cons, List.length_nil, List.length_append, List.set, List.cons_append, List.nil_append] | rfl))
    | refine ⟨_, _, _, _, _, rfl, rfl, rfl, Fits.mk (by first | exact Nat.le_of_ble_eq_true rfl | (dsimp only; omega)), rfl, ?_⟩
    | refine ⟨_, _, _, _, _, rfl, _, rfl, ?_⟩
    | refine ⟨by decide, ?_⟩
    | fail
  refine loop_I (C_ok W0) (fun k : Nat => k ≤ 6 - F.length)
    (fun k => [(2, .pointer (some ⟨1, 0, none⟩)), (3, .pointer (some ⟨2, 0, none⟩)), (4, .string (bs ((W ++ F) ++ List.replicate k 48))), (5, .int .i64 ((F.length + k : Nat) : Int))])
    (fun k => [dcB b W F, mgB 0 false, mgB 0 false]) (fun k => 6 - F.length - k) 0 (Nat.zero_le _) ⟨_, rfl, RT.of_eq (by dsimp only [List.map]; rw [List.replicate_zero, List.append_nil, ← bs_app, Nat.add_zero, ← s2]; rfl) rfl⟩ ?_
  intro k g1
  dsimp only
  have sa := bs_size ((W ++ F) ++ List.replicate k 48)
  have la : ((W ++ F) ++ List.replicate k 48).length = W.length + F.length + k := by simp; omega
  by_cases hk : k < 6 - F.length
  · have w1 : IntKind.i64.wrap (((F.length + k : Nat) : Int) + 1) = ((F.length + (k + 1) : Nat) : Int) := by rw [wrap_in (by omega)]; omega
    repeat' first
      | refine brP.tD (by omega) ?_
      | refine ⟨by (try simp only [ByteArray.size_append]); omega, ?_⟩
      | (apply Here.norm; (first | dsimp only [Env.putR, argEnv, pure1, newPtr, applyE, hset, List.length_cons, List.length_nil, List.length_append, List.set, List.cons_append, List.nil_append] | rfl); (first | dsimp only [Env.putR, argEnv, pure1, newPtr, applyE, hset, List.length_cons, List.length_nil, List.length_append, List.set, List.cons_append, List.nil_append] | rfl))
      | fail
    apply Again.mk (k + 1)
    · omega
    · omega
    refine ⟨_, rfl, RT.of_eq ?_ rfl⟩
    dsimp only [List.map]
    rw [w1, List.replicate_succ', ← List.append_assoc, ← bs_app]; rfl
  · obtain rfl : k = 6 - F.length := by omega
    have ea : (W ++ F) ++ List.replicate (6 - F.length) 48 = allT (b, W, F) := rfl
    have da : ∀ c ∈ allT (b, W, F), 48 ≤ c.toNat ∧ c.toNat ≤ 57 := app_dig (app_dig dW dF) (zeros_dig _)
    rw [ea] at sa la ⊢
    generalize allT (b, W, F) = T at *
    repeat' first
      | refine brP.fD (by omega) ?_
      | (apply Here.norm; (first | dsimp only [Env.putR, argEnv, pure1, newPtr, applyE, hset, List.length_cons, List.length_nil, List.length_append, List.set, List.cons_append, List.nil_append] | rfl); (first | dsimp only [Env.putR, argEnv, pure1, newPtr, applyE, hset, List.length_cons, List.length_nil, List.length_append, List.set, List.cons_append, List.nil_append] | rfl))
      | fail
    refine loop_I (C_ok W0) (fun q : Nat × Int × Bool => q.1 ≤ T.length ∧ 0 ≤ q.2.1 ∧ tooBig q.2.1 = false ∧ (if q.2.2 = true then (q.2.1, true) else wst (T.drop q.1) q.2.1) = wst T 0)
      (fun q => [(2, .pointer (some ⟨1, 0, none⟩)), (3, .pointer (some ⟨2, 0, none⟩)), (4, .string (bs T)), (6, .int .i64 q.1)])
      (fun q => [dcB b W F, mgB 0 false, mgB q.2.1 q.2.2]) (fun q => T.length - q.1) (0, 0, false) ⟨Nat.zero_le _, Int.le_refl _, by unfold tooBig; exact decide_eq_false (by decide), rfl⟩ ⟨_, rfl, RT.of_eq rfl rfl⟩ ?_
    rintro ⟨i, A, o⟩ ⟨g2, g3, g4, g5⟩
    dsimp only at g2 g3 g4 g5 ⊢
    by_cases hi : i < T.length
    · cases o with
      | true =>
        rw [if_pos rfl] at g5
        rw [← g5]
        repeat' first
          | refine brP.tD (by omega) ?_
          | (apply Here.norm; (first | dsimp only [Env.putR, argEnv, pure1, newPtr, applyE, hset, List.length_cons, List.length_nil, List.length_append, List.set, List.cons_append, List.nil_append] | rfl); (first | dsimp only [Env.putR, argEnv, pure1, newPtr, applyE, hset, List.length_cons, List.length_nil, List.length_append, List.set, List.cons_append, List.nil_append] | rfl))
          | refine ⟨_, _, _, _, _, rfl, rfl, rfl, Fits.mk (by first | exact Nat.le_of_ble_eq_true rfl | (dsimp only; omega)), rfl, ?_⟩
          | refine ⟨_, _, _, _, _, rfl, _, rfl, ?_⟩
          | refine ⟨_, _, _, _, _, rfl, Fits.mk (by first | exact Nat.le_of_ble_eq_true rfl | (dsimp only; omega)), _, rfl, ?_⟩
          | refine ⟨by decide, ?_⟩
          | fail
        rfl
      | false =>
        have eb := byteAt_bs hi
        have dc := da _ (List.getElem_mem hi)
        have dr := List.drop_eq_getElem_cons hi
        rw [if_neg (by simp), dr, wst] at g5
        generalize T[i] = c at *
        have w1 : IntKind.i64.wrap ((i : Int) + 1) = ((i + 1 : Nat) : Int) := by rw [wrap_in (by omega)]; omega
        have wd : IntKind.u64.wrap (IntKind.u8.wrap (byteAt (bs T) (i : Int) - 48)) = (c.toNat : Int) - 48 := by
          rw [eb, show IntKind.u8.wrap ((c.toNat : Int) - 48) = ((c.toNat : Int) - 48) % 256 by simp [IntKind.wrap, IntKind.bits, IntKind.signed], wrap_u64]; omega
        have g6 := of_decide_eq_false g4
        have tm := ref2_Times (W0 := W0) A 10 g3 (by omega) (by decide) (by decide)
        have pl := ref2_Plus (W0 := W0) (A * 10 % 340282366920938463463374607431768211456) ((c.toNat : Int) - 48) (decide (340282366920938463463374607431768211456 ≤ A * 10)) false (by omega) (by omega) (by omega) (by omega)
        have ea : mgV ((c.toNat : Int) - 48) false = .agg #[.int .u64 0, .int .u64 (IntKind.u64.wrap (IntKind.u8.wrap (byteAt (bs T) (i : Int) - 48))), .bool false] := by
          show Value.agg #[.int .u64 (((c.toNat : Int) - 48) / 18446744073709551616), .int .u64 (((c.toNat : Int) - 48) % 18446744073709551616), .bool false] = _
          rw [wd, show ((c.toNat : Int) - 48) / 18446744073709551616 = 0 by omega, show ((c.toNat : Int) - 48) % 18446744073709551616 = (c.toNat : Int) - 48 by omega]
        have e1 : (A * 10 % 340282366920938463463374607431768211456 + ((c.toNat : Int) - 48)) % 340282366920938463463374607431768211456 = lowBig (A * 10 + ((c.toNat : Int) - 48)) := by unfold lowBig; omega
        have e2 : (decide (340282366920938463463374607431768211456 ≤ A * 10) || false || decide (340282366920938463463374607431768211456 ≤ A * 10 % 340282366920938463463374607431768211456 + ((c.toNat : Int) - 48))) = tooBig (A * 10 + ((c.toNat : Int) - 48)) := by
          unfold tooBig
          by_cases h : 340282366920938463463374607431768211456 ≤ A * 10
          · rw [decide_eq_true h, decide_eq_true (show 340282366920938463463374607431768211456 ≤ A * 10 + ((c.toNat : Int) - 48) by omega)]; rfl
          · rw [decide_eq_false h, Bool.false_or, Bool.false_or, decide_eq_decide]; omega
        rw [ea, e1, e2] at pl
        have b0 : 0 ≤ lowBig (A * 10 + ((c.toNat : Int) - 48)) := by unfold lowBig; omega
        have b1 : tooBig (lowBig (A * 10 + ((c.toNat : Int) - 48))) = false := by unfold lowBig tooBig; exact decide_eq_false (by omega)
        have b2 : (if tooBig (A * 10 + ((c.toNat : Int) - 48)) = true then (lowBig (A * 10 + ((c.toNat : Int) - 48)), true) else wst (T.drop (i + 1)) (lowBig (A * 10 + ((c.toNat : Int) - 48)))) = wst T 0 := by
          by_cases h : tooBig (A * 10 + ((c.toNat : Int) - 48)) = true
          · rw [if_pos h] at g5 ⊢; exact g5
          · rw [if_neg h] at g5 ⊢
            rw [show lowBig (A * 10 + ((c.toNat : Int) - 48)) = A * 10 + ((c.toNat : Int) - 48) by
              unfold tooBig at h
              have := of_decide_eq_false (by simpa using h : decide (340282366920938463463374607431768211456 ≤ A * 10 + ((c.toNat : Int) - 48)) = false)
              unfold lowBig; omega]
            exact g5
        repeat' first
          | refine brP.tD (by omega) ?_
          | refine ⟨InB.mk (by omega) (by omega), ?_⟩
          | refine .inl ⟨_, tm, ?_⟩
          | refine .inl ⟨_, pl, ?_⟩
          | (apply Here.norm; (first | dsimp only [Env.putR, argEnv, pure1, newPtr, applyE, hset, List.length_cons, List.length_nil, List.length_append, List.set, List.cons_append, List.nil_append] | rfl); (first | dsimp only [Env.putR, argEnv, pure1, newPtr, applyE, hset, List.length_cons, List.length_nil, List.length_append, List.set, List.cons_append, List.nil_append] | rfl))
          | refine ⟨_, _, _, _, _, rfl, rfl, rfl, Fits.mk (by first | exact Nat.le_of_ble_eq_true rfl | (dsimp only; omega)), rfl, ?_⟩
          | refine ⟨_, _, _, _, _, rfl, _, rfl, ?_⟩
          | refine ⟨_, _, _, _, _, rfl, Fits.mk (by first | exact Nat.le_of_ble_eq_true rfl | (dsimp only; omega)), _, rfl, ?_⟩
          | refine draw_go (C_ok W0) (by kernel_rfl) ?_
          | refine ⟨cpt_ok (by kernel_rfl), ?_⟩
          | refine ⟨by decide, ?_⟩
          | fail
        apply Again.mk (i + 1, lowBig (A * 10 + ((c.toNat : Int) - 48)), tooBig (A * 10 + ((c.toNat : Int) - 48)))
        · exact ⟨by dsimp only; omega, b0, b1, b2⟩
        · dsimp only; omega
        refine ⟨_, rfl, RT.of_eq ?_ rfl⟩
        rw [w1]; rfl
    · rw [List.drop_eq_nil_of_le (by omega)] at g5
      have g7 : (A, o) = wst T 0 := by
        cases o with
        | true => rw [if_pos rfl] at g5; exact g5
        | false => rw [if_neg (by simp)] at g5; exact g5
      rw [← g7]
      repeat' first
        | refine brP.fD (by omega) ?_
        | (apply Here.norm; (first | dsimp only [Env.putR, argEnv, pure1, newPtr, applyE, hset, List.length_cons, List.length_nil, List.length_append, List.set, List.cons_append, List.nil_append] | rfl); (first | dsimp only [Env.putR, argEnv, pure1, newPtr, applyE, hset, List.length_cons, List.length_nil, List.length_append, List.set, List.cons_append, List.nil_append] | rfl))
        | refine ⟨_, _, _, _, _, rfl, rfl, rfl, Fits.mk (by first | exact Nat.le_of_ble_eq_true rfl | (dsimp only; omega)), rfl, ?_⟩
        | refine ⟨_, _, _, _, _, rfl, Fits.mk (by first | exact Nat.le_of_ble_eq_true rfl | (dsimp only; omega)), _, rfl, ?_⟩
        | fail
      rfl
end Go.Proofs.YtioahngbfdfcaaaDoor
