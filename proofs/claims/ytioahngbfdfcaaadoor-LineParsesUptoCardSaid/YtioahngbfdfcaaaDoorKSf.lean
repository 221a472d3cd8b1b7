import Derived.Test.YtioahngbfdfcaaaDoorKSd
import Derived.Test.YtioahngbfdfcaaaDoorKSe
import Derived.Test.YtioahngbfdfcaaaDoorKLg
set_option linter.unusedVariables false
set_option linter.unusedSimpArgs false
namespace Go.Proofs.YtioahngbfdfcaaaDoor
open Go Go.Den Go.RowKit
variable {W0 : World}
/-! tumblerref04: value -/
/-- What the reference takes of a value: the same event where it is one. -/
def valR (e : Ev) (s : List UInt8) : Ev × Bool :=
  if e.kind = 4 then ({ e with member := s }, memL s)
  else if e.kind = 2 ∧ (heads 43 s = true ∨ heads 45 s = true) then
    (if heads 43 s = true then (if heads 45 s.tail = true then ({ e with delta := true }, false) else ({ e with delta := true, value := (parseV s.tail).1 }, decide ((parseV s.tail).2 = 0)))
    else ({ e with delta := true, value := (parseV s).1 }, decide ((parseV s).2 = 0)))
  else if e.kind = 3 ∧ ((parseV s).1 < 0 ∨ 100000000000000 < (parseV s).1) then ({ e with value := (parseV s).1 }, false)
  else ({ e with value := (parseV s).1 }, decide ((parseV s).2 = 0))
theorem val_same {e : Ev} (he : e.delta = false) (s : List UInt8) : valR e s = takeV e s ∨ ((valR e s).2 = false ∧ (takeV e s).2 = false) := by
  unfold valR takeV takeN
  by_cases k4 : e.kind = 4
  · rw [if_pos k4, if_pos k4]; exact .inl rfl
  · rw [if_neg k4, if_neg k4]
    by_cases k2 : e.kind = 2
    · have k3 : ¬ e.kind = 3 := by omega
      rw [if_pos k2]
      by_cases h43 : heads 43 s = true
      · rw [if_pos ⟨k2, .inl h43⟩, if_pos h43, if_pos h43]
        by_cases h45 : heads 45 s.tail = true
        · rw [if_pos h45, if_pos h45]; exact .inl rfl
        · rw [if_neg h45, if_neg h45]; left; simp [k3]
      · rw [if_neg h43]
        by_cases h45 : heads 45 s = true
        · rw [if_pos ⟨k2, .inr h45⟩, if_neg h43]; left; simp [k3, h45]
        · rw [if_neg (fun z => z.2.elim h43 h45), if_neg (fun z => k3 z.1)]; left
          obtain ⟨a1, a2, a3, a4, a5, a6, a7, a8⟩ := e
          dsimp only at *
          subst he
          simp [k3, h45, h43]
    · rw [if_neg k2, if_neg (fun z => k2 z.1)]
      by_cases k3 : e.kind = 3
      · by_cases hr : (parseV s).1 < 0 ∨ 100000000000000 < (parseV s).1
        · rw [if_pos ⟨k3, hr⟩]; right
          refine ⟨rfl, ?_⟩
          simp [k3]; omega
        · rw [if_neg (fun z => hr z.2)]; left
          have h0 : 0 ≤ (parseV s).1 := by omega
          have h1 : (parseV s).1 ≤ 100000000000000 := by omega
          simp [k3, h0, h1]
      · rw [if_neg (fun z => k3 z.1)]; left; simp [k3]
attribute [local irreducible] parseV memL
set_option maxRecDepth 20000 in
set_option maxHeartbeats 8000000 in
theorem ref4_value (e : Ev) (s : List UInt8) (hs : s.length ≤ 1048576) : PureF (C W0) I.tumblerref04_value [evV e, .string (bs s)] (.tuple #[evV (valR e s).1, .bool (valR e s).2]) := by
  have hsz := bs_size s
  have me := ref4_Member (W0 := W0) s hs
  have mp := ref2_Parse (W0 := W0) s hs
  obtain ⟨nm, k, v, d, mb, r, t, x⟩ := e
  have fin : ∀ z, valR ⟨nm, k, v, d, mb, r, t, x⟩ s = z → Value.tuple #[evV (valR ⟨nm, k, v, d, mb, r, t, x⟩ s).1, .bool (valR ⟨nm, k, v, d, mb, r, t, x⟩ s).2] = .tuple #[evV z.1, .bool z.2] := fun z h => by rw [h]
  show PureF (C W0) I.tumblerref04_value [.agg #[.string (bs nm), .int .i64 k, .int .i64 v, .bool d, .string (bs mb), .int .i64 r, .bool t, .int .i64 x], .string (bs s)] _
  by_cases k4 : k = 4
  · rw [fin _ (show valR ⟨nm, k, v, d, mb, r, t, x⟩ s = _ from if_pos k4)]
    refine PureF.E (CallP.of_body (C_ok W0) B.tumblerref04_value rfl rfl rfl ?_)
    repeat' first
      | refine brP.tD (by omega) ?_
      | refine .inl ⟨_, me, ?_⟩
      | (apply Here.norm; (first | dsimp only [Env.putR, argEnv, pure1, newPtr, applyE, hset, List.length_cons, List.length_nil, List.length_append, List.set, List.cons_append, List.nil_append] | rfl); (first | dsimp only [Env.putR, argEnv, pure1, newPtr, applyE, hset, List.length_cons, List.length_nil, List.length_append, List.set, List.cons_append, List.nil_append] | rfl))
      | refine ⟨_, _, _, _, _, rfl, rfl, rfl, Fits.mk (by first | exact Nat.le_of_ble_eq_true rfl | (dsimp only; omega)), rfl, ?_⟩
      | refine ⟨_, _, _, _, _, rfl, _, rfl, ?_⟩
      | refine ⟨_, _, _, _, _, rfl, Fits.mk (by first | exact Nat.le_of_ble_eq_true rfl | (dsimp only; omega)), _, rfl, ?_⟩
      | refine draw_go (C_ok W0) (by kernel_rfl) ?_
      | refine ⟨cpt_ok (by kernel_rfl), ?_⟩
      | refine ⟨by decide, ?_⟩
      | fail
    rfl
  · have f4 : valR ⟨nm, k, v, d, mb, r, t, x⟩ s = _ := if_neg k4
    by_cases k2 : k = 2
    · cases s with
      | nil =>
        rw [if_neg (by rintro ⟨_, h | h⟩ <;> cases h), if_neg (by rintro ⟨h, _⟩; have h2 : k = 3 := h; omega)] at f4
        rw [fin _ f4]
        refine PureF.E (CallP.of_body (C_ok W0) B.tumblerref04_value rfl rfl rfl ?_)
        repeat' first
          | refine brP.tD (by omega) ?_
          | refine brP.fD (by omega) ?_
          | refine (mp).call ?_
          | (apply Here.norm; (first | dsimp only [Env.putR, argEnv, pure1, newPtr, applyE, hset, List.length_cons, List.length_nil, List.length_append, List.set, List.cons_append, List.nil_append] | rfl); (first | dsimp only [Env.putR, argEnv, pure1, newPtr, applyE, hset, List.length_cons, List.length_nil, List.length_append, List.set, List.cons_append, List.nil_append] | rfl))
          | refine ⟨_, _, _, _, _, rfl, rfl, rfl, Fits.mk (by first | exact Nat.le_of_ble_eq_true rfl | (dsimp only; omega)), rfl, ?_⟩
          | refine ⟨_, _, _, _, _, rfl, _, rfl, ?_⟩
          | refine ⟨_, _, _, _, _, rfl, Fits.mk (by first | exact Nat.le_of_ble_eq_true rfl | (dsimp only; omega)), _, rfl, ?_⟩
          | refine ⟨by decide, ?_⟩
          | refine ⟨_, rfl, ?_⟩
          | fail
        rfl
      | cons c u =>
        have eb := byteAt_0 c u
        have hl : (c :: u).length = u.length + 1 := rfl
        by_cases c43 : c = 43
        · subst c43
          have eb2 : byteAt (bs ((43 : UInt8) :: u)) 0 = 43 := eb
          have e1 : (bs ((43 : UInt8) :: u)).extract ((1 : Int).toNat) (((bs ((43 : UInt8) :: u)).size : Int)).toNat = bs u := by
            rw [Int.toNat_natCast, bs_extract, hsz]; simp
          have mp := ref2_Parse (W0 := W0) u (by omega)
          rw [← e1] at mp
          rw [if_pos ⟨k2, .inl rfl⟩, if_pos (show heads 43 ((43 : UInt8) :: u) = true from rfl), List.tail_cons] at f4
          have hsu := bs_size u
          rw [← e1] at hsu
          cases u with
          | nil =>
            rw [if_neg (show ¬ heads 45 [] = true by decide)] at f4
            rw [fin _ f4]
            refine PureF.E (CallP.of_body (C_ok W0) B.tumblerref04_value rfl rfl rfl ?_)
            repeat' first
              | refine brP.tD (by omega) ?_
              | refine brP.fD (by omega) ?_
              | refine ⟨InB.mk (by omega) (by omega), ?_⟩
              | refine ⟨SlB.mk (by omega) (by omega) (by omega), ?_⟩
              | refine (mp).call ?_
              | (apply Here.norm; (first | dsimp only [Env.putR, argEnv, pure1, newPtr, applyE, hset, List.length_cons, List.length_nil, List.length_append, List.set, List.cons_append, List.nil_append] | rfl); (first | dsimp only [Env.putR, argEnv, pure1, newPtr, applyE, hset, List.length_cons, List.length_nil, List.length_append, List.set, List.cons_append, List.nil_append] | rfl))
              | refine ⟨_, _, _, _, _, rfl, rfl, rfl, Fits.mk (by first | exact Nat.le_of_ble_eq_true rfl | (dsimp only; omega)), rfl, ?_⟩
              | refine ⟨_, _, _, _, _, rfl, _, rfl, ?_⟩
              | refine ⟨_, _, _, _, _, rfl, Fits.mk (by first | exact Nat.le_of_ble_eq_true rfl | (dsimp only; omega)), _, rfl, ?_⟩
              | refine ⟨by decide, ?_⟩
              | refine ⟨_, rfl, ?_⟩
              | fail
            rfl
          | cons c2 u2 =>
            have e2 := byteAt_0 c2 u2
            rw [← e1] at e2
            have hl2 : (c2 :: u2).length = u2.length + 1 := rfl
            by_cases c45 : c2 = 45
            · subst c45
              have e3 : byteAt ((bs ((43 : UInt8) :: 45 :: u2)).extract ((1 : Int).toNat) (((bs ((43 : UInt8) :: 45 :: u2)).size : Int)).toNat) 0 = 45 := e2
              rw [if_pos (show heads 45 ((45 : UInt8) :: u2) = true from rfl)] at f4
              rw [fin _ f4]
              refine PureF.E (CallP.of_body (C_ok W0) B.tumblerref04_value rfl rfl rfl ?_)
              repeat' first
                | refine brP.tD (by omega) ?_
                | refine brP.fD (by omega) ?_
                | refine ⟨InB.mk (by omega) (by omega), ?_⟩
                | refine ⟨SlB.mk (by omega) (by omega) (by omega), ?_⟩
                | (apply Here.norm; (first | dsimp only [Env.putR, argEnv, pure1, newPtr, applyE, hset, List.length_cons, List.length_nil, List.length_append, List.set, List.cons_append, List.nil_append] | rfl); (first | dsimp only [Env.putR, argEnv, pure1, newPtr, applyE, hset, List.length_cons, List.length_nil, List.length_append, List.set, List.cons_append, List.nil_append] | rfl))
                | refine ⟨_, _, _, _, _, rfl, rfl, rfl, Fits.mk (by first | exact Nat.le_of_ble_eq_true rfl | (dsimp only; omega)), rfl, ?_⟩
                | refine ⟨_, _, _, _, _, rfl, _, rfl, ?_⟩
                | refine ⟨_, _, _, _, _, rfl, Fits.mk (by first | exact Nat.le_of_ble_eq_true rfl | (dsimp only; omega)), _, rfl, ?_⟩
                | refine ⟨by decide, ?_⟩
                | fail
              rfl
            · have e3 := u8_ne c45
              rw [← e2, show ((45 : UInt8).toNat : Int) = 45 from rfl] at e3
              rw [if_neg (show ¬ heads 45 (c2 :: u2) = true from fun h => c45 (of_decide_eq_true h))] at f4
              rw [fin _ f4]
              refine PureF.E (CallP.of_body (C_ok W0) B.tumblerref04_value rfl rfl rfl ?_)
              repeat' first
                | refine brP.tD (by omega) ?_
                | refine brP.fD (by omega) ?_
                | refine ⟨InB.mk (by omega) (by omega), ?_⟩
                | refine ⟨SlB.mk (by omega) (by omega) (by omega), ?_⟩
                | refine (mp).call ?_
                | (apply Here.norm; (first | dsimp only [Env.putR, argEnv, pure1, newPtr, applyE, hset, List.length_cons, List.length_nil, List.length_append, List.set, List.cons_append, List.nil_append] | rfl); (first | dsimp only [Env.putR, argEnv, pure1, newPtr, applyE, hset, List.length_cons, List.length_nil, List.length_append, List.set, List.cons_append, List.nil_append] | rfl))
                | refine ⟨_, _, _, _, _, rfl, rfl, rfl, Fits.mk (by first | exact Nat.le_of_ble_eq_true rfl | (dsimp only; omega)), rfl, ?_⟩
                | refine ⟨_, _, _, _, _, rfl, _, rfl, ?_⟩
                | refine ⟨_, _, _, _, _, rfl, Fits.mk (by first | exact Nat.le_of_ble_eq_true rfl | (dsimp only; omega)), _, rfl, ?_⟩
                | refine ⟨by decide, ?_⟩
                | refine ⟨_, rfl, ?_⟩
                | fail
              rfl
        · have e43 := u8_ne c43
          rw [← eb, show ((43 : UInt8).toNat : Int) = 43 from rfl] at e43
          have h43 : ¬ heads 43 (c :: u) = true := fun h => c43 (of_decide_eq_true h)
          by_cases c45 : c = 45
          · subst c45
            have e45 : byteAt (bs ((45 : UInt8) :: u)) 0 = 45 := eb
            rw [if_pos ⟨k2, .inr rfl⟩, if_neg h43] at f4
            rw [fin _ f4]
            refine PureF.E (CallP.of_body (C_ok W0) B.tumblerref04_value rfl rfl rfl ?_)
            repeat' first
              | refine brP.tD (by omega) ?_
              | refine brP.fD (by omega) ?_
              | refine ⟨InB.mk (by omega) (by omega), ?_⟩
              | refine (mp).call ?_
              | (apply Here.norm; (first | dsimp only [Env.putR, argEnv, pure1, newPtr, applyE, hset, List.length_cons, List.length_nil, List.length_append, List.set, List.cons_append, List.nil_append] | rfl); (first | dsimp only [Env.putR, argEnv, pure1, newPtr, applyE, hset, List.length_cons, List.length_nil, List.length_append, List.set, List.cons_append, List.nil_append] | rfl))
              | refine ⟨_, _, _, _, _, rfl, rfl, rfl, Fits.mk (by first | exact Nat.le_of_ble_eq_true rfl | (dsimp only; omega)), rfl, ?_⟩
              | refine ⟨_, _, _, _, _, rfl, _, rfl, ?_⟩
              | refine ⟨_, _, _, _, _, rfl, Fits.mk (by first | exact Nat.le_of_ble_eq_true rfl | (dsimp only; omega)), _, rfl, ?_⟩
              | refine ⟨by decide, ?_⟩
              | refine ⟨_, rfl, ?_⟩
              | fail
            rfl
          · have e45 := u8_ne c45
            rw [← eb, show ((45 : UInt8).toNat : Int) = 45 from rfl] at e45
            rw [if_neg (by rintro ⟨_, h | h⟩; exact h43 h; exact c45 (of_decide_eq_true h)), if_neg (by rintro ⟨h, _⟩; have h2 : k = 3 := h; omega)] at f4
            rw [fin _ f4]
            refine PureF.E (CallP.of_body (C_ok W0) B.tumblerref04_value rfl rfl rfl ?_)
            repeat' first
              | refine brP.tD (by omega) ?_
              | refine brP.fD (by omega) ?_
              | refine ⟨InB.mk (by omega) (by omega), ?_⟩
              | refine (mp).call ?_
              | (apply Here.norm; (first | dsimp only [Env.putR, argEnv, pure1, newPtr, applyE, hset, List.length_cons, List.length_nil, List.length_append, List.set, List.cons_append, List.nil_append] | rfl); (first | dsimp only [Env.putR, argEnv, pure1, newPtr, applyE, hset, List.length_cons, List.length_nil, List.length_append, List.set, List.cons_append, List.nil_append] | rfl))
              | refine ⟨_, _, _, _, _, rfl, rfl, rfl, Fits.mk (by first | exact Nat.le_of_ble_eq_true rfl | (dsimp only; omega)), rfl, ?_⟩
              | refine ⟨_, _, _, _, _, rfl, _, rfl, ?_⟩
              | refine ⟨_, _, _, _, _, rfl, Fits.mk (by first | exact Nat.le_of_ble_eq_true rfl | (dsimp only; omega)), _, rfl, ?_⟩
              | refine ⟨by decide, ?_⟩
              | refine ⟨_, rfl, ?_⟩
              | fail
            rfl
    · rw [if_neg (fun z => k2 z.1)] at f4
      by_cases k3 : k = 3
      · by_cases r1 : (parseV s).1 < 0
        · rw [if_pos ⟨k3, .inl r1⟩] at f4
          rw [fin _ f4]
          refine PureF.E (CallP.of_body (C_ok W0) B.tumblerref04_value rfl rfl rfl ?_)
          repeat' first
            | refine brP.tD (by omega) ?_
            | refine brP.fD (by omega) ?_
            | refine (mp).call ?_
            | (apply Here.norm; (first | dsimp only [Env.putR, argEnv, pure1, newPtr, applyE, hset, List.length_cons, List.length_nil, List.length_append, List.set, List.cons_append, List.nil_append] | rfl); (first | dsimp only [Env.putR, argEnv, pure1, newPtr, applyE, hset, List.length_cons, List.length_nil, List.length_append, List.set, List.cons_append, List.nil_append] | rfl))
            | refine ⟨_, _, _, _, _, rfl, rfl, rfl, Fits.mk (by first | exact Nat.le_of_ble_eq_true rfl | (dsimp only; omega)), rfl, ?_⟩
            | refine ⟨_, _, _, _, _, rfl, _, rfl, ?_⟩
            | refine ⟨_, _, _, _, _, rfl, Fits.mk (by first | exact Nat.le_of_ble_eq_true rfl | (dsimp only; omega)), _, rfl, ?_⟩
            | refine ⟨by decide, ?_⟩
            | refine ⟨_, rfl, ?_⟩
            | fail
          rfl
        · by_cases r2 : 100000000000000 < (parseV s).1
          · rw [if_pos ⟨k3, .inr r2⟩] at f4
            rw [fin _ f4]
            refine PureF.E (CallP.of_body (C_ok W0) B.tumblerref04_value rfl rfl rfl ?_)
            repeat' first
              | refine brP.tD (by omega) ?_
              | refine brP.fD (by omega) ?_
              | refine (mp).call ?_
              | (apply Here.norm; (first | dsimp only [Env.putR, argEnv, pure1, newPtr, applyE, hset, List.length_cons, List.length_nil, List.length_append, List.set, List.cons_append, List.nil_append] | rfl); (first | dsimp only [Env.putR, argEnv, pure1, newPtr, applyE, hset, List.length_cons, List.length_nil, List.length_append, List.set, List.cons_append, List.nil_append] | rfl))
              | refine ⟨_, _, _, _, _, rfl, rfl, rfl, Fits.mk (by first | exact Nat.le_of_ble_eq_true rfl | (dsimp only; omega)), rfl, ?_⟩
              | refine ⟨_, _, _, _, _, rfl, _, rfl, ?_⟩
              | refine ⟨_, _, _, _, _, rfl, Fits.mk (by first | exact Nat.le_of_ble_eq_true rfl | (dsimp only; omega)), _, rfl, ?_⟩
              | refine ⟨by decide, ?_⟩
              | refine ⟨_, rfl, ?_⟩
              | fail
            rfl
          · rw [if_neg (by rintro ⟨_, h | h⟩; exact r1 h; exact r2 h)] at f4
            rw [fin _ f4]
            refine PureF.E (CallP.of_body (C_ok W0) B.tumblerref04_value rfl rfl rfl ?_)
            repeat' first
              | refine brP.tD (by omega) ?_
              | refine brP.fD (by omega) ?_
              | refine (mp).call ?_
              | (apply Here.norm; (first | dsimp only [Env.putR, argEnv, pure1, newPtr, applyE, hset, List.length_cons, List.length_nil, List.length_append, List.set, List.cons_append, List.nil_append] | rfl); (first | dsimp only [Env.putR, argEnv, pure1, newPtr, applyE, hset, List.length_cons, List.length_nil, List.length_append, List.set, List.cons_append, List.nil_append] | rfl))
              | refine ⟨_, _, _, _, _, rfl, rfl, rfl, Fits.mk (by first | exact Nat.le_of_ble_eq_true rfl | (dsimp only; omega)), rfl, ?_⟩
              | refine ⟨_, _, _, _, _, rfl, _, rfl, ?_⟩
              | refine ⟨_, _, _, _, _, rfl, Fits.mk (by first | exact Nat.le_of_ble_eq_true rfl | (dsimp only; omega)), _, rfl, ?_⟩
              | refine ⟨by decide, ?_⟩
              | refine ⟨_, rfl, ?_⟩
              | fail
            rfl
      · rw [if_neg (fun z => k3 z.1)] at f4
        rw [fin _ f4]
        refine PureF.E (CallP.of_body (C_ok W0) B.tumblerref04_value rfl rfl rfl ?_)
        repeat' first
          | refine brP.fD (by omega) ?_
          | refine (mp).call ?_
          | (apply Here.norm; (first | dsimp only [Env.putR, argEnv, pure1, newPtr, applyE, hset, List.length_cons, List.length_nil, List.length_append, List.set, List.cons_append, List.nil_append] | rfl); (first | dsimp only [Env.putR, argEnv, pure1, newPtr, applyE, hset, List.length_cons, List.length_nil, List.length_append, List.set, List.cons_append, List.nil_append] | rfl))
          | refine ⟨_, _, _, _, _, rfl, rfl, rfl, Fits.mk (by first | exact Nat.le_of_ble_eq_true rfl | (dsimp only; omega)), rfl, ?_⟩
          | refine ⟨_, _, _, _, _, rfl, _, rfl, ?_⟩
          | refine ⟨_, _, _, _, _, rfl, Fits.mk (by first | exact Nat.le_of_ble_eq_true rfl | (dsimp only; omega)), _, rfl, ?_⟩
          | refine ⟨by decide, ?_⟩
          | refine ⟨_, rfl, ?_⟩
          | fail
        rfl
end Go.Proofs.YtioahngbfdfcaaaDoor
