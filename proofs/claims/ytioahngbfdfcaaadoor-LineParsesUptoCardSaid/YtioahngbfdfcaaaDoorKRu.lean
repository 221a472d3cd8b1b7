import Derived.Test.YtioahngbfdfcaaaDoorKRa
import Derived.Shelf.Spec.BitsCarry
set_option linter.unusedVariables false
set_option linter.unusedSimpArgs false
namespace Go.Proofs.YtioahngbfdfcaaaDoor
open Go Go.Den Go.RowKit
variable {W0 : World}
/-! tumblerref03.rune1 -/
abbrev gB (l : List UInt8) (k : Nat) : Nat := (l.getD k 0).toNat
def r1 (l : List UInt8) : Int × Int :=
  if gB l 0 < 128 then ((gB l 0 : Int), 1)
  else if 194 ≤ gB l 0 ∧ gB l 0 < 224 then
    (if l.length < 2 ∨ gB l 1 / 64 ≠ 2 then (-1, 1) else (((gB l 0 % 32 * 64 + gB l 1 % 64 : Nat) : Int), 2))
  else if 224 ≤ gB l 0 ∧ gB l 0 < 240 then
    (if l.length < 3 ∨ gB l 1 / 64 ≠ 2 ∨ gB l 2 / 64 ≠ 2 then (-1, 1)
    else if (gB l 0 % 16 * 64 + gB l 1 % 64) * 64 + gB l 2 % 64 < 2048 ∨ (55296 ≤ (gB l 0 % 16 * 64 + gB l 1 % 64) * 64 + gB l 2 % 64 ∧ (gB l 0 % 16 * 64 + gB l 1 % 64) * 64 + gB l 2 % 64 ≤ 57343) then (-1, 1)
    else ((((gB l 0 % 16 * 64 + gB l 1 % 64) * 64 + gB l 2 % 64 : Nat) : Int), 3))
  else if 240 ≤ gB l 0 ∧ gB l 0 < 245 then
    (if l.length < 4 ∨ gB l 1 / 64 ≠ 2 ∨ gB l 2 / 64 ≠ 2 ∨ gB l 3 / 64 ≠ 2 then (-1, 1)
    else if ((gB l 0 % 8 * 64 + gB l 1 % 64) * 64 + gB l 2 % 64) * 64 + gB l 3 % 64 < 65536 ∨ 1114111 < ((gB l 0 % 8 * 64 + gB l 1 % 64) * 64 + gB l 2 % 64) * 64 + gB l 3 % 64 then (-1, 1)
    else (((((gB l 0 % 8 * 64 + gB l 1 % 64) * 64 + gB l 2 % 64) * 64 + gB l 3 % 64 : Nat) : Int), 4))
  else (-1, 1)
theorem get_bs (l : List UInt8) (k : Nat) : (bs l).get! k = l.getD k 0 := by
  show l.toArray[k]! = _
  rw [List.getElem!_toArray, List.getElem!_eq_getElem?_getD, List.getD_eq_getElem?_getD]; rfl
theorem gB_lt (l : List UInt8) (k : Nat) : gB l k < 256 := (l.getD k 0).toNat_lt
theorem dec_at0 (l : List UInt8) : Utf8.decode (bs l) 0 =
    if gB l 0 < 128 then (gB l 0, 1)
    else if gB l 0 / 32 = 6 ∧ (1 < l.length ∧ gB l 1 / 64 = 2) then (if gB l 0 % 32 * 64 + gB l 1 % 64 ≥ 128 then (gB l 0 % 32 * 64 + gB l 1 % 64, 2) else (65533, 1))
    else if (gB l 0 / 16 = 14 ∧ (1 < l.length ∧ gB l 1 / 64 = 2)) ∧ (2 < l.length ∧ gB l 2 / 64 = 2) then (if gB l 0 % 16 * 4096 + gB l 1 % 64 * 64 + gB l 2 % 64 ≥ 2048 ∧ Utf8.valid ((gB l 0 % 16 * 4096 + gB l 1 % 64 * 64 + gB l 2 % 64 : Nat) : Int) = true then (gB l 0 % 16 * 4096 + gB l 1 % 64 * 64 + gB l 2 % 64, 3) else (65533, 1))
    else if ((gB l 0 / 8 = 30 ∧ (1 < l.length ∧ gB l 1 / 64 = 2)) ∧ (2 < l.length ∧ gB l 2 / 64 = 2)) ∧ (3 < l.length ∧ gB l 3 / 64 = 2) then (if gB l 0 % 8 * 262144 + gB l 1 % 64 * 4096 + gB l 2 % 64 * 64 + gB l 3 % 64 ≥ 65536 ∧ Utf8.valid ((gB l 0 % 8 * 262144 + gB l 1 % 64 * 4096 + gB l 2 % 64 * 64 + gB l 3 % 64 : Nat) : Int) = true then (gB l 0 % 8 * 262144 + gB l 1 % 64 * 4096 + gB l 2 % 64 * 64 + gB l 3 % 64, 4) else (65533, 1))
    else (65533, 1) := by
  unfold Utf8.decode
  dsimp only
  simp only [get_bs, bs_size, Nat.zero_add, Bool.and_eq_true, beq_iff_eq, decide_eq_true_eq, Utf8.runeError]
theorem valid_iff (c : Nat) : Utf8.valid (c : Int) = true ↔ c < 55296 ∨ (57344 ≤ c ∧ c ≤ 1114111) := by
  unfold Utf8.valid
  simp only [Bool.or_eq_true, Bool.and_eq_true, decide_eq_true_eq]; omega
theorem r1_dec (l : List UInt8) : (r1 l).2 = ((Utf8.decode (bs l) 0).2 : Int) ∧ ((r1 l).1 = ((Utf8.decode (bs l) 0).1 : Int) ∨ ((r1 l).1 = -1 ∧ (Utf8.decode (bs l) 0).1 = 65533)) := by
  rw [dec_at0]
  simp only [valid_iff]
  have h0 := gB_lt l 0
  have h1 := gB_lt l 1
  have h2 := gB_lt l 2
  have h3 := gB_lt l 3
  unfold r1
  generalize gB l 0 = a at *
  generalize gB l 1 = b at *
  generalize gB l 2 = c at *
  generalize gB l 3 = d at *
  generalize l.length = n at *
  by_cases q0 : a < 128
  · rw [if_pos q0, if_pos q0]; exact ⟨rfl, .inl rfl⟩
  · rw [if_neg q0, if_neg q0]
    by_cases q1 : 194 ≤ a ∧ a < 224
    · rw [if_pos q1]
      by_cases q2 : n < 2 ∨ b / 64 ≠ 2
      · rw [if_pos q2, if_neg (by omega), if_neg (by omega), if_neg (by omega)]; exact ⟨rfl, .inr ⟨rfl, rfl⟩⟩
      · rw [if_neg q2, if_pos (by omega), if_pos (by omega)]; exact ⟨rfl, .inl rfl⟩
    · rw [if_neg q1]
      by_cases q2 : 224 ≤ a ∧ a < 240
      · rw [if_pos q2]
        by_cases q3 : n < 3 ∨ b / 64 ≠ 2 ∨ c / 64 ≠ 2
        · rw [if_pos q3, if_neg (by omega), if_neg (by omega), if_neg (by omega)]; exact ⟨rfl, .inr ⟨rfl, rfl⟩⟩
        · rw [if_neg q3, if_neg (show ¬ (a / 32 = 6 ∧ 1 < n ∧ b / 64 = 2) by omega), if_pos (show (a / 16 = 14 ∧ 1 < n ∧ b / 64 = 2) ∧ 2 < n ∧ c / 64 = 2 by omega), show a % 16 * 4096 + b % 64 * 64 + c % 64 = (a % 16 * 64 + b % 64) * 64 + c % 64 by omega]
          have vl : (a % 16 * 64 + b % 64) * 64 + c % 64 < 65536 := by omega
          generalize (a % 16 * 64 + b % 64) * 64 + c % 64 = v at *
          by_cases q4 : v < 2048 ∨ (55296 ≤ v ∧ v ≤ 57343)
          · rw [if_pos q4, if_neg (by omega)]; exact ⟨rfl, .inr ⟨rfl, rfl⟩⟩
          · rw [if_neg q4]
            rw [if_pos (by omega)]; exact ⟨rfl, .inl rfl⟩
      · rw [if_neg q2]
        by_cases q3 : 240 ≤ a ∧ a < 245
        · rw [if_pos q3]
          by_cases q4 : n < 4 ∨ b / 64 ≠ 2 ∨ c / 64 ≠ 2 ∨ d / 64 ≠ 2
          · rw [if_pos q4, if_neg (by omega), if_neg (by omega), if_neg (by omega)]; exact ⟨rfl, .inr ⟨rfl, rfl⟩⟩
          · rw [if_neg q4, if_neg (show ¬ (a / 32 = 6 ∧ 1 < n ∧ b / 64 = 2) by omega), if_neg (show ¬ ((a / 16 = 14 ∧ 1 < n ∧ b / 64 = 2) ∧ 2 < n ∧ c / 64 = 2) by omega), if_pos (show ((a / 8 = 30 ∧ 1 < n ∧ b / 64 = 2) ∧ 2 < n ∧ c / 64 = 2) ∧ 3 < n ∧ d / 64 = 2 by omega), show a % 8 * 262144 + b % 64 * 4096 + c % 64 * 64 + d % 64 = ((a % 8 * 64 + b % 64) * 64 + c % 64) * 64 + d % 64 by omega]
            generalize ((a % 8 * 64 + b % 64) * 64 + c % 64) * 64 + d % 64 = v at *
            by_cases q5 : v < 65536 ∨ 1114111 < v
            · rw [if_pos q5, if_neg (by omega)]; exact ⟨rfl, .inr ⟨rfl, rfl⟩⟩
            · rw [if_neg q5, if_pos (by omega)]; exact ⟨rfl, .inl rfl⟩
        · rw [if_neg q3]
          by_cases q4 : a / 32 = 6 ∧ (1 < n ∧ b / 64 = 2)
          · rw [if_pos q4, if_neg (by omega)]; exact ⟨rfl, .inr ⟨rfl, rfl⟩⟩
          · rw [if_neg q4, if_neg (by omega)]
            by_cases q5 : ((a / 8 = 30 ∧ (1 < n ∧ b / 64 = 2)) ∧ (2 < n ∧ c / 64 = 2)) ∧ (3 < n ∧ d / 64 = 2)
            · rw [if_pos q5, if_neg (by omega)]; exact ⟨rfl, .inr ⟨rfl, rfl⟩⟩
            · rw [if_neg q5]; exact ⟨rfl, .inr ⟨rfl, rfl⟩⟩
/-! The walk. -/
theorem and_i32 (x : Int) (j : Nat) (h0 : 0 ≤ x) (h1 : x < 2147483648) (hj : j ≤ 8) : Go.bits .and .i32 x (2 ^ j - 1) = x % 2 ^ j :=
  bits_mask .i32 31 (by decide) Go.wraps_i32 j (by omega) x h0 (by simpa using h1)
theorem join_i32 (c y : Int) (h0 : 0 ≤ c) (h1 : c < 33554432) (h2 : 0 ≤ y) (h3 : y < 64) : Go.bits .or .i32 (c * 64) y = c * 64 + y :=
  bits_join .i32 31 (by decide) Go.wraps_i32 6 (c * 64) y (by omega) (by simp) (by simp; omega) h2 (by simpa using h3) (by simp; omega)
theorem and63 : ∀ x : Fin 256, Go.bits .and .u8 (x.val : Int) 63 = ((x.val % 64 : Nat) : Int) := by decide +kernel
theorem and192 : ∀ x : Fin 256, (Go.bits .and .u8 (x.val : Int) 192 = 128) ↔ (x.val / 64 = 2) := by decide +kernel
/-- The bits gathered behind j bytes more. -/
def cAt (l : List UInt8) (c0 : Nat) : Nat → Nat
  | 0 => c0
  | j + 1 => cAt l c0 j * 64 + gB l (j + 1) % 64
theorem cAt_lt (l : List UInt8) {c0 : Nat} (h : c0 < 32) : ∀ j, cAt l c0 j < 32 * 64 ^ j
  | 0 => by simpa [cAt] using h
  | j + 1 => by
    have := cAt_lt l h j
    rw [cAt, Nat.pow_succ]; omega
theorem next_c {l : List UInt8} {c0 j : Nat} (h : c0 < 32) (hj : j ≤ 2) :
    Go.bits .or .i32 (shlV .i32 (cAt l c0 j : Nat) 6) (IntKind.i32.wrap (Go.bits .and .u8 (gB l (j + 1) : Nat) 63)) = ((cAt l c0 (j + 1) : Nat) : Int) := by
  have a := and63 ⟨gB l (j + 1), gB_lt l _⟩
  have b := cAt_lt l h j
  have b2 : (64 : Nat) ^ j ≤ 64 ^ 2 := Nat.pow_le_pow_right (by decide) hj
  have b3 : cAt l c0 j < 131072 := by omega
  have m := Nat.mod_lt (gB l (j + 1)) (show 0 < 64 by decide)
  dsimp only at a
  rw [a, Go.wraps_i32 _ (by omega) (by omega)]
  have s : shlV .i32 (cAt l c0 j : Nat) 6 = (cAt l c0 j : Int) * 64 := by
    show IntKind.i32.wrap ((cAt l c0 j : Int) * 64) = _
    exact Go.wraps_i32 _ (by omega) (by omega)
  rw [s, join_i32 _ _ (by omega) (by omega) (by omega) (by omega), cAt]; omega
abbrev r1V (l : List UInt8) : Value := .tuple #[.int .i32 (r1 l).1, .int .i64 (r1 l).2]
set_option maxRecDepth 20000 in
set_option maxHeartbeats 8000000 in
theorem ref3_rune1 (l : List UInt8) (hl : l.length ≤ 1048576) (h0 : 0 < l.length) : PureF (C W0) I.tumblerref03_rune1 [.string (bs l)] (r1V l) := by
  have hsz := bs_size l
  have g0 := gB_lt l 0
  have e0 : byteAt (bs l) 0 = ((gB l 0 : Nat) : Int) := by
    have := byteAt_bs (l := l) (i := 0) h0
    rw [show ((0 : Nat) : Int) = 0 from rfl] at this
    rw [this]; unfold gB; rw [List.getD_eq_getElem?_getD, List.getElem?_eq_getElem h0]; rfl
  have w0 : IntKind.i32.wrap (byteAt (bs l) 0) = ((gB l 0 : Nat) : Int) := by rw [e0]; exact Go.wraps_i32 _ (by omega) (by omega)
  have ek : ∀ k, k < l.length → byteAt (bs l) (k : Int) = ((gB l k : Nat) : Int) := fun k hk => by
    rw [byteAt_bs hk]; unfold gB; rw [List.getD_eq_getElem?_getD, List.getElem?_eq_getElem hk]; rfl
  refine PureF.E (CallP.of_body (C_ok W0) B.tumblerref03_rune1 rfl rfl rfl ?_)
  by_cases q0 : gB l 0 < 128
  · rw [r1V, show r1 l = ((gB l 0 : Int), 1) from if_pos q0]
    repeat' first
      | refine brP.tD (by omega) ?_
      | refine ⟨InB.mk (by omega) (by omega), ?_⟩
      | rw [w0]
      | (apply Here.norm; (first | dsimp only [Env.putR, argEnv, pure1, newPtr, applyE, hset, List.length_cons, List.length_nil, List.length_append, List.set, List.cons_append, List.nil_append] | rfl); (first | dsimp only [Env.putR, argEnv, pure1, newPtr, applyE, hset, List.length_cons, List.length_nil, List.length_append, List.set, List.cons_append, List.nil_append] | rfl))
      | fail
    rfl
  · by_cases q1 : 194 ≤ gB l 0 ∧ gB l 0 < 224
    · have hc : gB l 0 % 32 < 32 := by omega
      have am : Go.bits .and .i32 ((gB l 0 : Nat) : Int) 31 = ((cAt l (gB l 0 % 32) 0 : Nat) : Int) := by rw [show (31 : Int) = 2 ^ 5 - 1 by decide, and_i32 _ 5 (by omega) (by omega) (by decide)]; show _ = ((gB l 0 % 32 : Nat) : Int); omega
      by_cases q2 : l.length < 2
      · rw [r1V, show r1 l = (-1, 1) by unfold r1; rw [if_neg q0, if_pos q1, if_pos (.inl q2)]]
        repeat' first
          | refine brP.tD (by omega) ?_
          | refine brP.fD (by omega) ?_
          | refine ⟨InB.mk (by omega) (by omega), ?_⟩
          | rw [w0]
          | rw [am]
          | (apply Here.norm; (first | dsimp only [Env.putR, argEnv, pure1, newPtr, applyE, hset, List.length_cons, List.length_nil, List.length_append, List.set, List.cons_append, List.nil_append] | rfl); (first | dsimp only [Env.putR, argEnv, pure1, newPtr, applyE, hset, List.length_cons, List.length_nil, List.length_append, List.set, List.cons_append, List.nil_append] | rfl))
          | fail
        rfl
      · have rb : ∀ k, 1 ≤ k → k < 2 → ¬ gB l k / 64 = 2 → r1 l = (-1, 1) := fun k a b c => by
          obtain rfl : k = 1 := by omega
          unfold r1; rw [if_neg q0, if_pos q1, if_pos (.inr c)]
        have rz : (∀ k, 1 ≤ k → k ≤ 1 → gB l k / 64 = 2) → r1 l = if cAt l (gB l 0 % 32) 1 < 128 ∨ 1114111 < cAt l (gB l 0 % 32) 1 ∨ (55296 ≤ cAt l (gB l 0 % 32) 1 ∧ cAt l (gB l 0 % 32) 1 ≤ 57343) then (-1, 1) else (((cAt l (gB l 0 % 32) 1 : Nat) : Int), 2) := fun h => by
          have h1 := h 1 (by omega) (by omega)
          have e : cAt l (gB l 0 % 32) 1 = gB l 0 % 32 * 64 + gB l 1 % 64 := rfl
          rw [e, if_neg (by omega)]
          unfold r1; rw [if_neg q0, if_pos q1, if_neg (by omega)]
        repeat' first
          | refine brP.tD (by omega) ?_
          | refine brP.fD (by omega) ?_
          | refine ⟨InB.mk (by omega) (by omega), ?_⟩
          | rw [w0]
          | rw [am]
          | (apply Here.norm; (first | dsimp only [Env.putR, argEnv, pure1, newPtr, applyE, hset, List.length_cons, List.length_nil, List.length_append, List.set, List.cons_append, List.nil_append] | rfl); (first | dsimp only [Env.putR, argEnv, pure1, newPtr, applyE, hset, List.length_cons, List.length_nil, List.length_append, List.set, List.cons_append, List.nil_append] | rfl))
          | fail
        obtain ⟨low, hlow⟩ : ∃ z : Int, z = 128 := ⟨_, rfl⟩
        refine loop_I (C_ok W0) (fun j : Nat => j + 1 ≤ 2 ∧ ∀ k, 1 ≤ k → k ≤ j → gB l k / 64 = 2) (fun j => [(0, .string (bs l)), (4, .int .i32 (cAt l (gB l 0 % 32) j : Nat)), (5, .int .i64 2), (6, .int .i32 low), (7, .int .i64 ((j + 1 : Nat) : Int))]) (fun _ => []) (fun j => 2 - j) 0 ⟨by omega, fun k a b => by omega⟩ ⟨_, rfl, RT.of_eq (by dsimp only [List.map]; rw [hlow]; rfl) rfl⟩ ?_
        rintro j ⟨j1, j2⟩
        dsimp only
        by_cases hj : j + 1 < 2
        · have eb := ek (j + 1) (by omega)
          have nx := next_c (l := l) hc (j := j) (by omega)
          have cx := and192 ⟨gB l (j + 1), gB_lt l _⟩
          dsimp only at cx
          rw [← eb] at nx cx
          by_cases hq : gB l (j + 1) / 64 = 2
          · have ca := cx.mpr hq
            have w1 : IntKind.i64.wrap (((j + 1 : Nat) : Int) + 1) = ((j + 1 + 1 : Nat) : Int) := by rw [wrap_in (by omega)]; omega
            repeat' first
              | refine brP.tD (by omega) ?_
              | refine brP.fN (by omega) ?_
              | refine ⟨InB.mk (by omega) (by omega), ?_⟩
              | (apply Here.norm; (first | dsimp only [Env.putR, argEnv, pure1, newPtr, applyE, hset, List.length_cons, List.length_nil, List.length_append, List.set, List.cons_append, List.nil_append] | rfl); (first | dsimp only [Env.putR, argEnv, pure1, newPtr, applyE, hset, List.length_cons, List.length_nil, List.length_append, List.set, List.cons_append, List.nil_append] | rfl))
              | refine ⟨ShB.mk (by first | decide | omega), ?_⟩
              | fail
            apply Again.mk (j + 1)
            · exact ⟨by omega, fun k a b => by
                rcases (by omega : k ≤ j ∨ k = j + 1) with h | h
                · exact j2 k a h
                · subst h; exact hq⟩
            · omega
            refine ⟨_, rfl, RT.of_eq ?_ rfl⟩
            rw [w1]
            dsimp only [List.map]
            rw [← nx]
          · have ca : ¬ Go.bits .and .u8 (byteAt (bs l) ((j + 1 : Nat) : Int)) 192 = 128 := fun h => hq (cx.mp h)
            rw [r1V, rb (j + 1) (by omega) hj hq]
            repeat' first
              | refine brP.tD (by omega) ?_
              | refine brP.tN (by omega) ?_
              | refine ⟨InB.mk (by omega) (by omega), ?_⟩
              | (apply Here.norm; (first | dsimp only [Env.putR, argEnv, pure1, newPtr, applyE, hset, List.length_cons, List.length_nil, List.length_append, List.set, List.cons_append, List.nil_append] | rfl); (first | dsimp only [Env.putR, argEnv, pure1, newPtr, applyE, hset, List.length_cons, List.length_nil, List.length_append, List.set, List.cons_append, List.nil_append] | rfl))
              | fail
            rfl
        · obtain rfl : j = 1 := by omega
          have rz := rz j2
          rw [r1V, rz]
          generalize cAt l (gB l 0 % 32) 1 = v at *
          by_cases z1 : v < 128
          · rw [if_pos (.inl z1)]
            repeat' first
              | refine brP.tD (by omega) ?_
              | (apply Here.norm; (first | dsimp only [Env.putR, argEnv, pure1, newPtr, applyE, hset, List.length_cons, List.length_nil, List.length_append, List.set, List.cons_append, List.nil_append] | rfl); (first | dsimp only [Env.putR, argEnv, pure1, newPtr, applyE, hset, List.length_cons, List.length_nil, List.length_append, List.set, List.cons_append, List.nil_append] | rfl))
              | fail
            rfl
          · by_cases z2 : 1114111 < v
            · rw [if_pos (.inr (.inl z2))]
              repeat' first
                | refine brP.tD (by omega) ?_
                | refine brP.fD (by omega) ?_
                | (apply Here.norm; (first | dsimp only [Env.putR, argEnv, pure1, newPtr, applyE, hset, List.length_cons, List.length_nil, List.length_append, List.set, List.cons_append, List.nil_append] | rfl); (first | dsimp only [Env.putR, argEnv, pure1, newPtr, applyE, hset, List.length_cons, List.length_nil, List.length_append, List.set, List.cons_append, List.nil_append] | rfl))
                | fail
              rfl
            · by_cases z3 : 55296 ≤ v ∧ v ≤ 57343
              · rw [if_pos (.inr (.inr z3))]
                repeat' first
                  | refine brP.tD (by omega) ?_
                  | refine brP.fD (by omega) ?_
                  | (apply Here.norm; (first | dsimp only [Env.putR, argEnv, pure1, newPtr, applyE, hset, List.length_cons, List.length_nil, List.length_append, List.set, List.cons_append, List.nil_append] | rfl); (first | dsimp only [Env.putR, argEnv, pure1, newPtr, applyE, hset, List.length_cons, List.length_nil, List.length_append, List.set, List.cons_append, List.nil_append] | rfl))
                  | fail
                rfl
              · rw [if_neg (by omega)]
                by_cases z4 : 55296 ≤ v
                ·
                  repeat' first
                    | refine brP.tD (by omega) ?_
                    | refine brP.fD (by omega) ?_
                    | (apply Here.norm; (first | dsimp only [Env.putR, argEnv, pure1, newPtr, applyE, hset, List.length_cons, List.length_nil, List.length_append, List.set, List.cons_append, List.nil_append] | rfl); (first | dsimp only [Env.putR, argEnv, pure1, newPtr, applyE, hset, List.length_cons, List.length_nil, List.length_append, List.set, List.cons_append, List.nil_append] | rfl))
                    | fail
                  rfl
                · first
                    | (exfalso; omega)
                    | skip
                  all_goals
                    repeat' first
                      | refine brP.fD (by omega) ?_
                      | (apply Here.norm; (first | dsimp only [Env.putR, argEnv, pure1, newPtr, applyE, hset, List.length_cons, List.length_nil, List.length_append, List.set, List.cons_append, List.nil_append] | rfl); (first | dsimp only [Env.putR, argEnv, pure1, newPtr, applyE, hset, List.length_cons, List.length_nil, List.length_append, List.set, List.cons_append, List.nil_append] | rfl))
                      | fail
                    rfl
    · by_cases q3 : 224 ≤ gB l 0 ∧ gB l 0 < 240
      · have hc : gB l 0 % 16 < 32 := by omega
        have am : Go.bits .and .i32 ((gB l 0 : Nat) : Int) 15 = ((cAt l (gB l 0 % 16) 0 : Nat) : Int) := by rw [show (15 : Int) = 2 ^ 4 - 1 by decide, and_i32 _ 4 (by omega) (by omega) (by decide)]; show _ = ((gB l 0 % 16 : Nat) : Int); omega
        by_cases q2 : l.length < 3
        · rw [r1V, show r1 l = (-1, 1) by unfold r1; rw [if_neg q0, if_neg q1, if_pos q3, if_pos (.inl q2)]]
          repeat' first
            | refine brP.tD (by omega) ?_
            | refine brP.fD (by omega) ?_
            | refine ⟨InB.mk (by omega) (by omega), ?_⟩
            | rw [w0]
            | rw [am]
            | (apply Here.norm; (first | dsimp only [Env.putR, argEnv, pure1, newPtr, applyE, hset, List.length_cons, List.length_nil, List.length_append, List.set, List.cons_append, List.nil_append] | rfl); (first | dsimp only [Env.putR, argEnv, pure1, newPtr, applyE, hset, List.length_cons, List.length_nil, List.length_append, List.set, List.cons_append, List.nil_append] | rfl))
            | fail
          rfl
        · have rb : ∀ k, 1 ≤ k → k < 3 → ¬ gB l k / 64 = 2 → r1 l = (-1, 1) := fun k a b c => by
            rcases (by omega : k = 1 ∨ k = 2) with rfl | rfl
            · unfold r1; rw [if_neg q0, if_neg q1, if_pos q3, if_pos (.inr (.inl c))]
            · unfold r1; rw [if_neg q0, if_neg q1, if_pos q3, if_pos (.inr (.inr c))]
          have rz : (∀ k, 1 ≤ k → k ≤ 2 → gB l k / 64 = 2) → r1 l = if cAt l (gB l 0 % 16) 2 < 2048 ∨ 1114111 < cAt l (gB l 0 % 16) 2 ∨ (55296 ≤ cAt l (gB l 0 % 16) 2 ∧ cAt l (gB l 0 % 16) 2 ≤ 57343) then (-1, 1) else (((cAt l (gB l 0 % 16) 2 : Nat) : Int), 3) := fun h => by
            have h1 := h 1 (by omega) (by omega)
            have h2 := h 2 (by omega) (by omega)
            have e : cAt l (gB l 0 % 16) 2 = (gB l 0 % 16 * 64 + gB l 1 % 64) * 64 + gB l 2 % 64 := rfl
            have ev : (gB l 0 % 16 * 64 + gB l 1 % 64) * 64 + gB l 2 % 64 < 65536 := by omega
            rw [e]
            unfold r1; rw [if_neg q0, if_neg q1, if_pos q3, if_neg (by omega)]
            generalize (gB l 0 % 16 * 64 + gB l 1 % 64) * 64 + gB l 2 % 64 = v at *
            by_cases z : v < 2048 ∨ (55296 ≤ v ∧ v ≤ 57343)
            · rw [if_pos z, if_pos (by omega)]
            · rw [if_neg z, if_neg (by omega)]
          repeat' first
            | refine brP.tD (by omega) ?_
            | refine brP.fD (by omega) ?_
            | refine ⟨InB.mk (by omega) (by omega), ?_⟩
            | rw [w0]
            | rw [am]
            | (apply Here.norm; (first | dsimp only [Env.putR, argEnv, pure1, newPtr, applyE, hset, List.length_cons, List.length_nil, List.length_append, List.set, List.cons_append, List.nil_append] | rfl); (first | dsimp only [Env.putR, argEnv, pure1, newPtr, applyE, hset, List.length_cons, List.length_nil, List.length_append, List.set, List.cons_append, List.nil_append] | rfl))
            | fail
          obtain ⟨low, hlow⟩ : ∃ z : Int, z = 2048 := ⟨_, rfl⟩
          refine loop_I (C_ok W0) (fun j : Nat => j + 1 ≤ 3 ∧ ∀ k, 1 ≤ k → k ≤ j → gB l k / 64 = 2) (fun j => [(0, .string (bs l)), (4, .int .i32 (cAt l (gB l 0 % 16) j : Nat)), (5, .int .i64 3), (6, .int .i32 low), (7, .int .i64 ((j + 1 : Nat) : Int))]) (fun _ => []) (fun j => 3 - j) 0 ⟨by omega, fun k a b => by omega⟩ ⟨_, rfl, RT.of_eq (by dsimp only [List.map]; rw [hlow]; rfl) rfl⟩ ?_
          rintro j ⟨j1, j2⟩
          dsimp only
          by_cases hj : j + 1 < 3
          · have eb := ek (j + 1) (by omega)
            have nx := next_c (l := l) hc (j := j) (by omega)
            have cx := and192 ⟨gB l (j + 1), gB_lt l _⟩
            dsimp only at cx
            rw [← eb] at nx cx
            by_cases hq : gB l (j + 1) / 64 = 2
            · have ca := cx.mpr hq
              have w1 : IntKind.i64.wrap (((j + 1 : Nat) : Int) + 1) = ((j + 1 + 1 : Nat) : Int) := by rw [wrap_in (by omega)]; omega
              repeat' first
                | refine brP.tD (by omega) ?_
                | refine brP.fN (by omega) ?_
                | refine ⟨InB.mk (by omega) (by omega), ?_⟩
                | (apply Here.norm; (first | dsimp only [Env.putR, argEnv, pure1, newPtr, applyE, hset, List.length_cons, List.length_nil, List.length_append, List.set, List.cons_append, List.nil_append] | rfl); (first | dsimp only [Env.putR, argEnv, pure1, newPtr, applyE, hset, List.length_cons, List.length_nil, List.length_append, List.set, List.cons_append, List.nil_append] | rfl))
                | refine ⟨ShB.mk (by first | decide | omega), ?_⟩
                | fail
              apply Again.mk (j + 1)
              · exact ⟨by omega, fun k a b => by
                  rcases (by omega : k ≤ j ∨ k = j + 1) with h | h
                  · exact j2 k a h
                  · subst h; exact hq⟩
              · omega
              refine ⟨_, rfl, RT.of_eq ?_ rfl⟩
              rw [w1]
              dsimp only [List.map]
              rw [← nx]
            · have ca : ¬ Go.bits .and .u8 (byteAt (bs l) ((j + 1 : Nat) : Int)) 192 = 128 := fun h => hq (cx.mp h)
              rw [r1V, rb (j + 1) (by omega) hj hq]
              repeat' first
                | refine brP.tD (by omega) ?_
                | refine brP.tN (by omega) ?_
                | refine ⟨InB.mk (by omega) (by omega), ?_⟩
                | (apply Here.norm; (first | dsimp only [Env.putR, argEnv, pure1, newPtr, applyE, hset, List.length_cons, List.length_nil, List.length_append, List.set, List.cons_append, List.nil_append] | rfl); (first | dsimp only [Env.putR, argEnv, pure1, newPtr, applyE, hset, List.length_cons, List.length_nil, List.length_append, List.set, List.cons_append, List.nil_append] | rfl))
                | fail
              rfl
          · obtain rfl : j = 2 := by omega
            have rz := rz j2
            rw [r1V, rz]
            generalize cAt l (gB l 0 % 16) 2 = v at *
            by_cases z1 : v < 2048
            · rw [if_pos (.inl z1)]
              repeat' first
                | refine brP.tD (by omega) ?_
                | (apply Here.norm; (first | dsimp only [Env.putR, argEnv, pure1, newPtr, applyE, hset, List.length_cons, List.length_nil, List.length_append, List.set, List.cons_append, List.nil_append] | rfl); (first | dsimp only [Env.putR, argEnv, pure1, newPtr, applyE, hset, List.length_cons, List.length_nil, List.length_append, List.set, List.cons_append, List.nil_append] | rfl))
                | fail
              rfl
            · by_cases z2 : 1114111 < v
              · rw [if_pos (.inr (.inl z2))]
                repeat' first
                  | refine brP.tD (by omega) ?_
                  | refine brP.fD (by omega) ?_
                  | (apply Here.norm; (first | dsimp only [Env.putR, argEnv, pure1, newPtr, applyE, hset, List.length_cons, List.length_nil, List.length_append, List.set, List.cons_append, List.nil_append] | rfl); (first | dsimp only [Env.putR, argEnv, pure1, newPtr, applyE, hset, List.length_cons, List.length_nil, List.length_append, List.set, List.cons_append, List.nil_append] | rfl))
                  | fail
                rfl
              · by_cases z3 : 55296 ≤ v ∧ v ≤ 57343
                · rw [if_pos (.inr (.inr z3))]
                  repeat' first
                    | refine brP.tD (by omega) ?_
                    | refine brP.fD (by omega) ?_
                    | (apply Here.norm; (first | dsimp only [Env.putR, argEnv, pure1, newPtr, applyE, hset, List.length_cons, List.length_nil, List.length_append, List.set, List.cons_append, List.nil_append] | rfl); (first | dsimp only [Env.putR, argEnv, pure1, newPtr, applyE, hset, List.length_cons, List.length_nil, List.length_append, List.set, List.cons_append, List.nil_append] | rfl))
                    | fail
                  rfl
                · rw [if_neg (by omega)]
                  by_cases z4 : 55296 ≤ v
                  ·
                    repeat' first
                      | refine brP.tD (by omega) ?_
                      | refine brP.fD (by omega) ?_
                      | (apply Here.norm; (first | dsimp only [Env.putR, argEnv, pure1, newPtr, applyE, hset, List.length_cons, List.length_nil, List.length_append, List.set, List.cons_append, List.nil_append] | rfl); (first | dsimp only [Env.putR, argEnv, pure1, newPtr, applyE, hset, List.length_cons, List.length_nil, List.length_append, List.set, List.cons_append, List.nil_append] | rfl))
                      | fail
                    rfl
                  · first
                      | (exfalso; omega)
                      | skip
                    all_goals
                      repeat' first
                        | refine brP.fD (by omega) ?_
                        | (apply Here.norm; (first | dsimp only [Env.putR, argEnv, pure1, newPtr, applyE, hset, List.length_cons, List.length_nil, List.length_append, List.set, List.cons_append, List.nil_append] | rfl); (first | dsimp only [Env.putR, argEnv, pure1, newPtr, applyE, hset, List.length_cons, List.length_nil, List.length_append, List.set, List.cons_append, List.nil_append] | rfl))
                        | fail
                      rfl
      · by_cases q4 : 240 ≤ gB l 0 ∧ gB l 0 < 245
        · have hc : gB l 0 % 8 < 32 := by omega
          have am : Go.bits .and .i32 ((gB l 0 : Nat) : Int) 7 = ((cAt l (gB l 0 % 8) 0 : Nat) : Int) := by rw [show (7 : Int) = 2 ^ 3 - 1 by decide, and_i32 _ 3 (by omega) (by omega) (by decide)]; show _ = ((gB l 0 % 8 : Nat) : Int); omega
          by_cases q2 : l.length < 4
          · rw [r1V, show r1 l = (-1, 1) by unfold r1; rw [if_neg q0, if_neg q1, if_neg q3, if_pos q4, if_pos (.inl q2)]]
            repeat' first
              | refine brP.tD (by omega) ?_
              | refine brP.fD (by omega) ?_
              | refine ⟨InB.mk (by omega) (by omega), ?_⟩
              | rw [w0]
              | rw [am]
              | (apply Here.norm; (first | dsimp only [Env.putR, argEnv, pure1, newPtr, applyE, hset, List.length_cons, List.length_nil, List.length_append, List.set, List.cons_append, List.nil_append] | rfl); (first | dsimp only [Env.putR, argEnv, pure1, newPtr, applyE, hset, List.length_cons, List.length_nil, List.length_append, List.set, List.cons_append, List.nil_append] | rfl))
              | fail
            rfl
          · have rb : ∀ k, 1 ≤ k → k < 4 → ¬ gB l k / 64 = 2 → r1 l = (-1, 1) := fun k a b c => by
              rcases (by omega : k = 1 ∨ k = 2 ∨ k = 3) with rfl | rfl | rfl
              · unfold r1; rw [if_neg q0, if_neg q1, if_neg q3, if_pos q4, if_pos (.inr (.inl c))]
              · unfold r1; rw [if_neg q0, if_neg q1, if_neg q3, if_pos q4, if_pos (.inr (.inr (.inl c)))]
              · unfold r1; rw [if_neg q0, if_neg q1, if_neg q3, if_pos q4, if_pos (.inr (.inr (.inr c)))]
            have rz : (∀ k, 1 ≤ k → k ≤ 3 → gB l k / 64 = 2) → r1 l = if cAt l (gB l 0 % 8) 3 < 65536 ∨ 1114111 < cAt l (gB l 0 % 8) 3 ∨ (55296 ≤ cAt l (gB l 0 % 8) 3 ∧ cAt l (gB l 0 % 8) 3 ≤ 57343) then (-1, 1) else (((cAt l (gB l 0 % 8) 3 : Nat) : Int), 4) := fun h => by
              have h1 := h 1 (by omega) (by omega)
              have h2 := h 2 (by omega) (by omega)
              have h3 := h 3 (by omega) (by omega)
              have e : cAt l (gB l 0 % 8) 3 = ((gB l 0 % 8 * 64 + gB l 1 % 64) * 64 + gB l 2 % 64) * 64 + gB l 3 % 64 := rfl
              rw [e]
              unfold r1; rw [if_neg q0, if_neg q1, if_neg q3, if_pos q4, if_neg (by omega)]
              generalize ((gB l 0 % 8 * 64 + gB l 1 % 64) * 64 + gB l 2 % 64) * 64 + gB l 3 % 64 = v at *
              by_cases z : v < 65536 ∨ 1114111 < v
              · rw [if_pos z, if_pos (by omega)]
              · rw [if_neg z, if_neg (by omega)]
            repeat' first
              | refine brP.tD (by omega) ?_
              | refine brP.fD (by omega) ?_
              | refine ⟨InB.mk (by omega) (by omega), ?_⟩
              | rw [w0]
              | rw [am]
              | (apply Here.norm; (first | dsimp only [Env.putR, argEnv, pure1, newPtr, applyE, hset, List.length_cons, List.length_nil, List.length_append, List.set, List.cons_append, List.nil_append] | rfl); (first | dsimp only [Env.putR, argEnv, pure1, newPtr, applyE, hset, List.length_cons, List.length_nil, List.length_append, List.set, List.cons_append, List.nil_append] | rfl))
              | fail
            obtain ⟨low, hlow⟩ : ∃ z : Int, z = 65536 := ⟨_, rfl⟩
            refine loop_I (C_ok W0) (fun j : Nat => j + 1 ≤ 4 ∧ ∀ k, 1 ≤ k → k ≤ j → gB l k / 64 = 2) (fun j => [(0, .string (bs l)), (4, .int .i32 (cAt l (gB l 0 % 8) j : Nat)), (5, .int .i64 4), (6, .int .i32 low), (7, .int .i64 ((j + 1 : Nat) : Int))]) (fun _ => []) (fun j => 4 - j) 0 ⟨by omega, fun k a b => by omega⟩ ⟨_, rfl, RT.of_eq (by dsimp only [List.map]; rw [hlow]; rfl) rfl⟩ ?_
            rintro j ⟨j1, j2⟩
            dsimp only
            by_cases hj : j + 1 < 4
            · have eb := ek (j + 1) (by omega)
              have nx := next_c (l := l) hc (j := j) (by omega)
              have cx := and192 ⟨gB l (j + 1), gB_lt l _⟩
              dsimp only at cx
              rw [← eb] at nx cx
              by_cases hq : gB l (j + 1) / 64 = 2
              · have ca := cx.mpr hq
                have w1 : IntKind.i64.wrap (((j + 1 : Nat) : Int) + 1) = ((j + 1 + 1 : Nat) : Int) := by rw [wrap_in (by omega)]; omega
                repeat' first
                  | refine brP.tD (by omega) ?_
                  | refine brP.fN (by omega) ?_
                  | refine ⟨InB.mk (by omega) (by omega), ?_⟩
                  | (apply Here.norm; (first | dsimp only [Env.putR, argEnv, pure1, newPtr, applyE, hset, List.length_cons, List.length_nil, List.length_append, List.set, List.cons_append, List.nil_append] | rfl); (first | dsimp only [Env.putR, argEnv, pure1, newPtr, applyE, hset, List.length_cons, List.length_nil, List.length_append, List.set, List.cons_append, List.nil_append] | rfl))
                  | refine ⟨ShB.mk (by first | decide | omega), ?_⟩
                  | fail
                apply Again.mk (j + 1)
                · exact ⟨by omega, fun k a b => by
                    rcases (by omega : k ≤ j ∨ k = j + 1) with h | h
                    · exact j2 k a h
                    · subst h; exact hq⟩
                · omega
                refine ⟨_, rfl, RT.of_eq ?_ rfl⟩
                rw [w1]
                dsimp only [List.map]
                rw [← nx]
              · have ca : ¬ Go.bits .and .u8 (byteAt (bs l) ((j + 1 : Nat) : Int)) 192 = 128 := fun h => hq (cx.mp h)
                rw [r1V, rb (j + 1) (by omega) hj hq]
                repeat' first
                  | refine brP.tD (by omega) ?_
                  | refine brP.tN (by omega) ?_
                  | refine ⟨InB.mk (by omega) (by omega), ?_⟩
                  | (apply Here.norm; (first | dsimp only [Env.putR, argEnv, pure1, newPtr, applyE, hset, List.length_cons, List.length_nil, List.length_append, List.set, List.cons_append, List.nil_append] | rfl); (first | dsimp only [Env.putR, argEnv, pure1, newPtr, applyE, hset, List.length_cons, List.length_nil, List.length_append, List.set, List.cons_append, List.nil_append] | rfl))
                  | fail
                rfl
            · obtain rfl : j = 3 := by omega
              have rz := rz j2
              rw [r1V, rz]
              generalize cAt l (gB l 0 % 8) 3 = v at *
              by_cases z1 : v < 65536
              · rw [if_pos (.inl z1)]
                repeat' first
                  | refine brP.tD (by omega) ?_
                  | (apply Here.norm; (first | dsimp only [Env.putR, argEnv, pure1, newPtr, applyE, hset, List.length_cons, List.length_nil, List.length_append, List.set, List.cons_append, List.nil_append] | rfl); (first | dsimp only [Env.putR, argEnv, pure1, newPtr, applyE, hset, List.length_cons, List.length_nil, List.length_append, List.set, List.cons_append, List.nil_append] | rfl))
                  | fail
                rfl
              · by_cases z2 : 1114111 < v
                · rw [if_pos (.inr (.inl z2))]
                  repeat' first
                    | refine brP.tD (by omega) ?_
                    | refine brP.fD (by omega) ?_
                    | (apply Here.norm; (first | dsimp only [Env.putR, argEnv, pure1, newPtr, applyE, hset, List.length_cons, List.length_nil, List.length_append, List.set, List.cons_append, List.nil_append] | rfl); (first | dsimp only [Env.putR, argEnv, pure1, newPtr, applyE, hset, List.length_cons, List.length_nil, List.length_append, List.set, List.cons_append, List.nil_append] | rfl))
                    | fail
                  rfl
                · by_cases z3 : 55296 ≤ v ∧ v ≤ 57343
                  · rw [if_pos (.inr (.inr z3))]
                    repeat' first
                      | refine brP.tD (by omega) ?_
                      | (apply Here.norm; (first | dsimp only [Env.putR, argEnv, pure1, newPtr, applyE, hset, List.length_cons, List.length_nil, List.length_append, List.set, List.cons_append, List.nil_append] | rfl); (first | dsimp only [Env.putR, argEnv, pure1, newPtr, applyE, hset, List.length_cons, List.length_nil, List.length_append, List.set, List.cons_append, List.nil_append] | rfl))
                      | fail
                    rfl
                  · rw [if_neg (by omega)]
                    by_cases z4 : 55296 ≤ v
                    ·
                      repeat' first
                        | refine brP.tD (by omega) ?_
                        | refine brP.fD (by omega) ?_
                        | (apply Here.norm; (first | dsimp only [Env.putR, argEnv, pure1, newPtr, applyE, hset, List.length_cons, List.length_nil, List.length_append, List.set, List.cons_append, List.nil_append] | rfl); (first | dsimp only [Env.putR, argEnv, pure1, newPtr, applyE, hset, List.length_cons, List.length_nil, List.length_append, List.set, List.cons_append, List.nil_append] | rfl))
                        | fail
                      rfl
                    · first
                        | (exfalso; omega)
                        | skip
                      all_goals
                        repeat' first
                          | fail
                        rfl
        · rw [r1V, show r1 l = (-1, 1) by unfold r1; rw [if_neg q0, if_neg q1, if_neg q3, if_neg q4]]
          by_cases q5 : gB l 0 < 194
          ·
            repeat' first
              | refine brP.fD (by omega) ?_
              | refine ⟨InB.mk (by omega) (by omega), ?_⟩
              | rw [w0]
              | (apply Here.norm; (first | dsimp only [Env.putR, argEnv, pure1, newPtr, applyE, hset, List.length_cons, List.length_nil, List.length_append, List.set, List.cons_append, List.nil_append] | rfl); (first | dsimp only [Env.putR, argEnv, pure1, newPtr, applyE, hset, List.length_cons, List.length_nil, List.length_append, List.set, List.cons_append, List.nil_append] | rfl))
              | fail
            rfl
          ·
            repeat' first
              | refine brP.tD (by omega) ?_
              | refine brP.fD (by omega) ?_
              | refine ⟨InB.mk (by omega) (by omega), ?_⟩
              | rw [w0]
              | (apply Here.norm; (first | dsimp only [Env.putR, argEnv, pure1, newPtr, applyE, hset, List.length_cons, List.length_nil, List.length_append, List.set, List.cons_append, List.nil_append] | rfl); (first | dsimp only [Env.putR, argEnv, pure1, newPtr, applyE, hset, List.length_cons, List.length_nil, List.length_append, List.set, List.cons_append, List.nil_append] | rfl))
              | fail
            rfl
end Go.Proofs.YtioahngbfdfcaaaDoor
