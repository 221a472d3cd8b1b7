import Derived.Test.YtioahngbfdfcaaaDoorKRc
set_option linter.unusedVariables false
set_option linter.unusedSimpArgs false
namespace Go.Proofs.YtioahngbfdfcaaaDoor
open Go Go.Den Go.RowKit
variable {W0 : World}
/-! tumblerref02: digits, Text, Of, Print -/
def padP (k n : Nat) : List UInt8 := if n = 0 ∧ k = 0 then [] else pad k n
theorem padP_step {k n : Nat} (h : ¬ (n = 0 ∧ k = 0)) : padP k n = padP (k - 1) (n / 10) ++ [dig (n % 10)] := by
  unfold padP
  rw [if_neg h]
  by_cases hn : n < 10
  · have e0 : n / 10 = 0 := by omega
    have e1 : n % 10 = n := by omega
    rw [e0, e1]
    unfold pad
    rw [dec_small hn]
    by_cases hk : k - 1 = 0
    · rw [if_pos ⟨rfl, hk⟩, show k - ([dig n] : List UInt8).length = 0 by simp; omega]; rfl
    · rw [if_neg (fun z => hk z.2), dec_small (u := 0) (by decide)]
      simp only [List.length_singleton]
      rw [show k - 1 = (k - 1 - 1) + 1 by omega, List.replicate_succ']
      rfl
  · rw [if_neg (fun z => hn (by omega))]
    unfold pad
    rw [dec_big hn, List.length_append, List.length_singleton, ← List.append_assoc]
    congr 2
    congr 1; omega
theorem dig_u8 {n : Nat} (h : n < 10) : IntKind.u8.wrap (IntKind.u64.wrap (48 + (n : Int))) = ((dig n).toNat : Int) := by
  rw [dig_toNat h, wrap_u64]
  simp [IntKind.wrap, IntKind.bits, IntKind.signed]; omega
theorem one_byte {a : Int} {b : UInt8} (h : a = (b.toNat : Int)) : List.take 1 (List.drop 0 (putL (repL 1 [Value.int .u8 0]) (0 * 1) (Value.int .u8 a).cells.toList)) = byteV [b] := by rw [h]; rfl
theorem cons_bs (b : UInt8) (s : List UInt8) : (⟨[b].toArray⟩ : ByteArray) ++ bs s = bs (b :: s) := bs_app [b] s
set_option maxRecDepth 20000 in
set_option maxHeartbeats 8000000 in
theorem ref2_digits (A : Nat) (hA : A < 18446744073709551616) : PureF (C W0) I.tumblerref02_digits [mgV A false] (.string (bs (pad 7 A))) := by
  refine PureF.E (CallP.of_body (C_ok W0) B.tumblerref02_digits rfl rfl rfl ?_)
  have pl : (pad 7 A).length ≤ 27 := by
    unfold pad
    have : (Lib.decDigits A).length ≤ 20 := dec_len (k := 19) (by rw [show (10 : Nat) ^ (19 + 1) = 100000000000000000000 by decide]; omega)
    rw [List.length_append, List.length_replicate]; omega
  generalize hP : pad 7 A = P at *
  repeat' first
    | (apply Here.norm; (first | dsimp only [Env.putR, argEnv, pure1, newPtr, applyE, hset, List.length_cons, List.length_nil, List.length_append, List.set, List.cons_append, List.nil_append] | rfl); (first | dsimp only [Env.putR, argEnv, pure1, newPtr, applyE, hset, List.length_cons, List.length_nil, List.length_append, List.set, List.cons_append, List.nil_append] | rfl))
    | fail
  refine loop_I (C_ok W0) (fun q : Nat × List UInt8 => q.1 < 18446744073709551616 ∧ padP (7 - q.2.length) q.1 ++ q.2 = P)
    (fun q => [(1, .pointer (some ⟨0, 0, none⟩)), (3, .string (bs q.2))]) (fun q => [mgB q.1 false]) (fun q => q.1 + (7 - q.2.length)) (A, [])
    ⟨hA, by rw [← hP]; unfold padP; rw [if_neg (by simp)]; simp⟩ ⟨_, rfl, RT.of_eq rfl rfl⟩ ?_
  rintro ⟨n, s⟩ ⟨g1, g2⟩
  dsimp only at g1 g2 ⊢
  have sz := bs_size s
  have sl : s.length ≤ 27 := by rw [← g2] at pl; rw [List.length_append] at pl; omega
  have e0 : (n : Int) / 18446744073709551616 = 0 := by omega
  have e1 : (n : Int) % 18446744073709551616 = (n : Int) := by omega
  by_cases h : n = 0 ∧ 7 - s.length = 0
  · obtain ⟨rfl, h2⟩ := h
    rw [show padP (7 - s.length) 0 = [] by unfold padP; rw [if_pos ⟨rfl, h2⟩]] at g2
    repeat' first
      | refine brP.fD (by omega) ?_
      | (apply Here.norm; (first | dsimp only [Env.putR, argEnv, pure1, newPtr, applyE, hset, List.length_cons, List.length_nil, List.length_append, List.set, List.cons_append, List.nil_append] | rfl); (first | dsimp only [Env.putR, argEnv, pure1, newPtr, applyE, hset, List.length_cons, List.length_nil, List.length_append, List.set, List.cons_append, List.nil_append] | rfl))
      | refine ⟨_, _, _, _, _, rfl, _, rfl, ?_⟩
      | refine ⟨by decide, ?_⟩
      | fail
    rw [← g2]; rfl
  · have st := padP_step (k := 7 - s.length) (n := n) (fun z => h ⟨z.1, z.2⟩)
    rw [st, List.append_assoc] at g2
    have by1 := ref2_By (W0 := W0) n 10 false (by omega) (by omega) (by decide) (by decide)
    rw [show (n : Int) / 10 = ((n / 10 : Nat) : Int) by omega, show (n : Int) % 10 = ((n % 10 : Nat) : Int) by omega] at by1
    have d8 := dig_u8 (n := n % 10) (by omega)
    have z1 : (⟨[dig (n % 10)].toArray⟩ : ByteArray).size = 1 := rfl
    by_cases hn : n = 0
    · have hs : s.length < 7 := by omega
      repeat' first
        | refine brP.tD (by omega) ?_
        | refine brP.fD (by omega) ?_
        | refine (by1).call ?_
        | refine ⟨rfl, by decide, ?_⟩
        | refine .inr ⟨rfl, Nat.succ_pos _, _, _, _, _, _, rfl, rfl, Nat.le_refl _, _, one_byte d8, ?_⟩
        | refine ⟨by (try simp only [ByteArray.size_append]); omega, ?_⟩
        | (apply Here.norm; (first | dsimp only [Env.putR, argEnv, pure1, newPtr, applyE, hset, List.length_cons, List.length_nil, List.length_append, List.set, List.cons_append, List.nil_append] | rfl); (first | dsimp only [Env.putR, argEnv, pure1, newPtr, applyE, hset, List.length_cons, List.length_nil, List.length_append, List.set, List.cons_append, List.nil_append] | rfl))
        | refine ⟨_, _, _, _, _, rfl, rfl, rfl, Fits.mk (by first | exact Nat.le_of_ble_eq_true rfl | (dsimp only; omega)), rfl, ?_⟩
        | refine ⟨_, _, _, _, _, rfl, _, rfl, ?_⟩
        | refine ⟨_, _, _, _, _, rfl, Fits.mk (by first | exact Nat.le_of_ble_eq_true rfl | (dsimp only; omega)), _, rfl, ?_⟩
        | refine ⟨by decide, ?_⟩
        | refine ⟨_, rfl, ?_⟩
        | fail
      apply Again.mk (n / 10, dig (n % 10) :: s)
      · refine ⟨by dsimp only; omega, ?_⟩
        dsimp only
        rw [List.length_cons, ← g2, show 7 - (s.length + 1) = 7 - s.length - 1 by omega]; simp
      · dsimp only [List.length_cons]; omega
      · refine ⟨_, rfl, ?_⟩
        dsimp only [List.map]
        refine RT.ren [0] rfl rfl ?_ ?_
        all_goals (repeat' first
          | exact trivial
          | exact LTo.nil
          | refine ⟨⟨_, rfl, ?_, (fun z => by cases z)⟩, ?_⟩
          | refine BTo.cells (fun z => z) ?_
          | exact VTo.ptr (by decide)
          | refine LTo.cons ?_ ?_
          | refine VTo.int ?_
          | refine VTo.bool ?_
          | refine VTo.string ?_
          | (with_reducible rfl)
          | fail)
        all_goals first
          | exact cons_bs _ _
          | rfl
    ·
      repeat' first
        | refine brP.tD (by omega) ?_
        | refine brP.fD (by omega) ?_
        | refine (by1).call ?_
        | refine ⟨rfl, by decide, ?_⟩
        | refine .inr ⟨rfl, Nat.succ_pos _, _, _, _, _, _, rfl, rfl, Nat.le_refl _, _, one_byte d8, ?_⟩
        | refine ⟨by (try simp only [ByteArray.size_append]); omega, ?_⟩
        | (apply Here.norm; (first | dsimp only [Env.putR, argEnv, pure1, newPtr, applyE, hset, List.length_cons, List.length_nil, List.length_append, List.set, List.cons_append, List.nil_append] | rfl); (first | dsimp only [Env.putR, argEnv, pure1, newPtr, applyE, hset, List.length_cons, List.length_nil, List.length_append, List.set, List.cons_append, List.nil_append] | rfl))
        | refine ⟨_, _, _, _, _, rfl, rfl, rfl, Fits.mk (by first | exact Nat.le_of_ble_eq_true rfl | (dsimp only; omega)), rfl, ?_⟩
        | refine ⟨_, _, _, _, _, rfl, _, rfl, ?_⟩
        | refine ⟨_, _, _, _, _, rfl, Fits.mk (by first | exact Nat.le_of_ble_eq_true rfl | (dsimp only; omega)), _, rfl, ?_⟩
        | refine ⟨by decide, ?_⟩
        | refine ⟨_, rfl, ?_⟩
        | fail
      apply Again.mk (n / 10, dig (n % 10) :: s)
      · refine ⟨by dsimp only; omega, ?_⟩
        dsimp only
        rw [List.length_cons, ← g2, show 7 - (s.length + 1) = 7 - s.length - 1 by omega]; simp
      · dsimp only [List.length_cons]; omega
      · refine ⟨_, rfl, ?_⟩
        dsimp only [List.map]
        refine RT.ren [0] rfl rfl ?_ ?_
        all_goals (repeat' first
          | exact trivial
          | exact LTo.nil
          | refine ⟨⟨_, rfl, ?_, (fun z => by cases z)⟩, ?_⟩
          | refine BTo.cells (fun z => z) ?_
          | exact VTo.ptr (by decide)
          | refine LTo.cons ?_ ?_
          | refine VTo.int ?_
          | refine VTo.bool ?_
          | refine VTo.string ?_
          | (with_reducible rfl)
          | fail)
        all_goals first
          | exact cons_bs _ _
          | rfl
end Go.Proofs.YtioahngbfdfcaaaDoor
