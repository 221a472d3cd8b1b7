import Derived.Test.YtioahngbfdfcaaaDoorKSf
import Derived.Test.YtioahngbfdfcaaaDoorKLi
set_option linter.unusedVariables false
set_option linter.unusedSimpArgs false
namespace Go.Proofs.YtioahngbfdfcaaaDoor
open Go Go.Den Go.RowKit
variable {W0 : World}
/-! tumblerref04: field -/
attribute [local irreducible] parseV stampV stampR
set_option maxRecDepth 20000 in
set_option maxHeartbeats 8000000 in
theorem ref4_field (e : Ev) (s : List UInt8) (rr : Bool) (hs : s.length ≤ 1048576) (hk : 1 ≤ e.kind ∧ e.kind ≤ 4) : PureF (C W0) I.tumblerref04_field [evV e, .string (bs s), .bool rr, .bool e.timed] (.tuple #[evV (stepP e rr s).1, .int .i64 (stepP e rr s).2.2]) := by
  have hsz := bs_size s
  obtain ⟨nm, k, v, d, mb, r, t, x⟩ := e
  dsimp only at hk
  have fin : ∀ z, stepP ⟨nm, k, v, d, mb, r, t, x⟩ rr s = z → Value.tuple #[evV (stepP ⟨nm, k, v, d, mb, r, t, x⟩ rr s).1, .int .i64 (stepP ⟨nm, k, v, d, mb, r, t, x⟩ rr s).2.2] = .tuple #[evV z.1, .int .i64 z.2.2] := fun z h => by rw [h]
  show PureF (C W0) I.tumblerref04_field [.agg #[.string (bs nm), .int .i64 k, .int .i64 v, .bool d, .string (bs mb), .int .i64 r, .bool t, .int .i64 x], .string (bs s), .bool rr, .bool t] _
  cases s with
  | nil =>
    rw [fin (⟨nm, k, v, d, mb, r, t, x⟩, rr, 46) (by unfold stepP; rw [if_neg (by simp [heads]), if_neg (by simp [heads])])]
    refine PureF.E (CallP.of_body (C_ok W0) B.tumblerref04_field rfl rfl rfl ?_)
    repeat' first
      | (apply Here.norm; (first | dsimp only [Env.putR, argEnv, pure1, newPtr, applyE, hset, List.length_cons, List.length_nil, List.length_append, List.set, List.cons_append, List.nil_append] | rfl); (first | dsimp only [Env.putR, argEnv, pure1, newPtr, applyE, hset, List.length_cons, List.length_nil, List.length_append, List.set, List.cons_append, List.nil_append] | rfl))
      | refine ⟨_, _, _, _, _, rfl, rfl, rfl, Fits.mk (by first | exact Nat.le_of_ble_eq_true rfl | (dsimp only; omega)), rfl, ?_⟩
      | refine ⟨_, _, _, _, _, rfl, Fits.mk (by first | exact Nat.le_of_ble_eq_true rfl | (dsimp only; omega)), _, rfl, ?_⟩
      | fail
    rfl
  | cons c u =>
    have eb := byteAt_0 c u
    have hl : (c :: u).length = u.length + 1 := rfl
    have e1 : (bs (c :: u)).extract ((1 : Int).toNat) (((bs (c :: u)).size : Int)).toNat = bs u := by
      rw [Int.toNat_natCast, bs_extract, hsz]; simp
    have mp := ref2_Parse (W0 := W0) u (by omega)
    have st := ref4_stamp (W0 := W0) u (by omega)
    have ss := stamp_same u
    rw [← e1] at mp st
    by_cases c64 : c = 64
    · have b64 : byteAt (bs (c :: u)) 0 = 64 := by rw [eb, c64]; rfl
      have h64 : heads 64 (c :: u) = true := decide_eq_true c64
      have h84 : ¬ heads 84 (c :: u) = true := fun h => by have := of_decide_eq_true h; rw [c64] at this; exact absurd this (by decide)
      cases t with
      | true =>
        rw [fin (⟨nm, k, v, d, mb, r, true, x⟩, rr, 46) (by unfold stepP; rw [if_neg (by simp), if_neg (by simp)])]
        refine PureF.E (CallP.of_body (C_ok W0) B.tumblerref04_field rfl rfl rfl ?_)
        repeat' first
          | refine brP.fN (by omega) ?_
          | refine ⟨InB.mk (by omega) (by omega), ?_⟩
          | (apply Here.norm; (first | dsimp only [Env.putR, argEnv, pure1, newPtr, applyE, hset, List.length_cons, List.length_nil, List.length_append, List.set, List.cons_append, List.nil_append] | rfl); (first | dsimp only [Env.putR, argEnv, pure1, newPtr, applyE, hset, List.length_cons, List.length_nil, List.length_append, List.set, List.cons_append, List.nil_append] | rfl))
          | refine ⟨_, _, _, _, _, rfl, rfl, rfl, Fits.mk (by first | exact Nat.le_of_ble_eq_true rfl | (dsimp only; omega)), rfl, ?_⟩
          | refine ⟨_, _, _, _, _, rfl, Fits.mk (by first | exact Nat.le_of_ble_eq_true rfl | (dsimp only; omega)), _, rfl, ?_⟩
          | fail
        rfl
      | false =>
        cases rr with
        | true =>
          rw [fin (⟨nm, k, v, d, mb, r, false, x⟩, true, 46) (by unfold stepP; rw [if_neg (by simp), if_neg (fun z => h84 z.1)])]
          refine PureF.E (CallP.of_body (C_ok W0) B.tumblerref04_field rfl rfl rfl ?_)
          repeat' first
            | refine brP.tD (by omega) ?_
            | refine brP.fN (by omega) ?_
            | refine ⟨InB.mk (by omega) (by omega), ?_⟩
            | (apply Here.norm; (first | dsimp only [Env.putR, argEnv, pure1, newPtr, applyE, hset, List.length_cons, List.length_nil, List.length_append, List.set, List.cons_append, List.nil_append] | rfl); (first | dsimp only [Env.putR, argEnv, pure1, newPtr, applyE, hset, List.length_cons, List.length_nil, List.length_append, List.set, List.cons_append, List.nil_append] | rfl))
            | refine ⟨_, _, _, _, _, rfl, rfl, rfl, Fits.mk (by first | exact Nat.le_of_ble_eq_true rfl | (dsimp only; omega)), rfl, ?_⟩
            | refine ⟨_, _, _, _, _, rfl, Fits.mk (by first | exact Nat.le_of_ble_eq_true rfl | (dsimp only; omega)), _, rfl, ?_⟩
            | fail
          rfl
        | false =>
          by_cases ok : (parseV u).2 = 0 ∧ 1000 ≤ (parseV u).1 ∧ (parseV u).1 ≤ 1000000 ∧ mayK k = true
          · have f := fin (⟨nm, k, v, d, mb, (parseV u).1, false, x⟩, true, 0) (by unfold stepP; rw [if_pos ⟨h64, rfl, rfl⟩, List.tail_cons, if_pos ok])
            rw [f]
            obtain ⟨o1, o2, o3, o4⟩ := ok
            have kk : k = 1 ∨ k = 3 := by unfold mayK at o4; simpa using o4
            rcases kk with rfl | rfl
            ·
              refine PureF.E (CallP.of_body (C_ok W0) B.tumblerref04_field rfl rfl rfl ?_)
              repeat' first
                | refine brP.tD (by omega) ?_
                | refine brP.fD (by omega) ?_
                | refine brP.fN (by omega) ?_
                | refine ⟨InB.mk (by omega) (by omega), ?_⟩
                | refine ⟨SlB.mk (by omega) (by omega) (by omega), ?_⟩
                | refine (mp).call ?_
                | (apply Here.norm; (first | dsimp only [Env.putR, argEnv, pure1, newPtr, applyE, hset, List.length_cons, List.length_nil, List.length_append, List.set, List.cons_append, List.nil_append] | rfl); (first | dsimp only [Env.putR, argEnv, pure1, newPtr, applyE, hset, List.length_cons, List.length_nil, List.length_append, List.set, List.cons_append, List.nil_append] | rfl))
                | refine ⟨_, _, _, _, _, rfl, rfl, rfl, Fits.mk (by first | exact Nat.le_of_ble_eq_true rfl | (dsimp only; omega)), rfl, ?_⟩
                | refine ⟨_, _, _, _, _, rfl, _, rfl, ?_⟩
                | refine ⟨_, _, _, _, _, rfl, Fits.mk (by first | exact Nat.le_of_ble_eq_true rfl | (dsimp only; omega)), _, rfl, ?_⟩
                | refine ⟨by decide, ?_⟩
                | refine ⟨_, rfl, ?_⟩
                | fail
              rfl
            ·
              refine PureF.E (CallP.of_body (C_ok W0) B.tumblerref04_field rfl rfl rfl ?_)
              repeat' first
                | refine brP.tD (by omega) ?_
                | refine brP.fD (by omega) ?_
                | refine brP.fN (by omega) ?_
                | refine ⟨InB.mk (by omega) (by omega), ?_⟩
                | refine ⟨SlB.mk (by omega) (by omega) (by omega), ?_⟩
                | refine (mp).call ?_
                | (apply Here.norm; (first | dsimp only [Env.putR, argEnv, pure1, newPtr, applyE, hset, List.length_cons, List.length_nil, List.length_append, List.set, List.cons_append, List.nil_append] | rfl); (first | dsimp only [Env.putR, argEnv, pure1, newPtr, applyE, hset, List.length_cons, List.length_nil, List.length_append, List.set, List.cons_append, List.nil_append] | rfl))
                | refine ⟨_, _, _, _, _, rfl, rfl, rfl, Fits.mk (by first | exact Nat.le_of_ble_eq_true rfl | (dsimp only; omega)), rfl, ?_⟩
                | refine ⟨_, _, _, _, _, rfl, _, rfl, ?_⟩
                | refine ⟨_, _, _, _, _, rfl, Fits.mk (by first | exact Nat.le_of_ble_eq_true rfl | (dsimp only; omega)), _, rfl, ?_⟩
                | refine ⟨by decide, ?_⟩
                | refine ⟨_, rfl, ?_⟩
                | fail
              rfl
          · have f := fin (⟨nm, k, v, d, mb, r, false, x⟩, false, 44) (by unfold stepP; rw [if_pos ⟨h64, rfl, rfl⟩, List.tail_cons, if_neg ok])
            rw [f]
            by_cases o1 : (parseV u).2 = 0
            · by_cases o2 : (parseV u).1 < 1000
              ·
                refine PureF.E (CallP.of_body (C_ok W0) B.tumblerref04_field rfl rfl rfl ?_)
                repeat' first
                  | refine brP.tD (by omega) ?_
                  | refine brP.fN (by omega) ?_
                  | refine ⟨InB.mk (by omega) (by omega), ?_⟩
                  | refine ⟨SlB.mk (by omega) (by omega) (by omega), ?_⟩
                  | refine (mp).call ?_
                  | (apply Here.norm; (first | dsimp only [Env.putR, argEnv, pure1, newPtr, applyE, hset, List.length_cons, List.length_nil, List.length_append, List.set, List.cons_append, List.nil_append] | rfl); (first | dsimp only [Env.putR, argEnv, pure1, newPtr, applyE, hset, List.length_cons, List.length_nil, List.length_append, List.set, List.cons_append, List.nil_append] | rfl))
                  | refine ⟨_, _, _, _, _, rfl, rfl, rfl, Fits.mk (by first | exact Nat.le_of_ble_eq_true rfl | (dsimp only; omega)), rfl, ?_⟩
                  | refine ⟨_, _, _, _, _, rfl, Fits.mk (by first | exact Nat.le_of_ble_eq_true rfl | (dsimp only; omega)), _, rfl, ?_⟩
                  | refine ⟨_, rfl, ?_⟩
                  | fail
                rfl
              · by_cases o3 : 1000000 < (parseV u).1
                ·
                  refine PureF.E (CallP.of_body (C_ok W0) B.tumblerref04_field rfl rfl rfl ?_)
                  repeat' first
                    | refine brP.tD (by omega) ?_
                    | refine brP.fD (by omega) ?_
                    | refine brP.fN (by omega) ?_
                    | refine ⟨InB.mk (by omega) (by omega), ?_⟩
                    | refine ⟨SlB.mk (by omega) (by omega) (by omega), ?_⟩
                    | refine (mp).call ?_
                    | (apply Here.norm; (first | dsimp only [Env.putR, argEnv, pure1, newPtr, applyE, hset, List.length_cons, List.length_nil, List.length_append, List.set, List.cons_append, List.nil_append] | rfl); (first | dsimp only [Env.putR, argEnv, pure1, newPtr, applyE, hset, List.length_cons, List.length_nil, List.length_append, List.set, List.cons_append, List.nil_append] | rfl))
                    | refine ⟨_, _, _, _, _, rfl, rfl, rfl, Fits.mk (by first | exact Nat.le_of_ble_eq_true rfl | (dsimp only; omega)), rfl, ?_⟩
                    | refine ⟨_, _, _, _, _, rfl, Fits.mk (by first | exact Nat.le_of_ble_eq_true rfl | (dsimp only; omega)), _, rfl, ?_⟩
                    | refine ⟨_, rfl, ?_⟩
                    | fail
                  rfl
                · have kk : k = 2 ∨ k = 4 := by
                    have : ¬ mayK k = true := fun h => ok ⟨o1, by omega, by omega, h⟩
                    unfold mayK at this; simp at this; omega
                  rcases kk with rfl | rfl
                  ·
                    refine PureF.E (CallP.of_body (C_ok W0) B.tumblerref04_field rfl rfl rfl ?_)
                    repeat' first
                      | refine brP.tD (by omega) ?_
                      | refine brP.fD (by omega) ?_
                      | refine brP.fN (by omega) ?_
                      | refine ⟨InB.mk (by omega) (by omega), ?_⟩
                      | refine ⟨SlB.mk (by omega) (by omega) (by omega), ?_⟩
                      | refine (mp).call ?_
                      | (apply Here.norm; (first | dsimp only [Env.putR, argEnv, pure1, newPtr, applyE, hset, List.length_cons, List.length_nil, List.length_append, List.set, List.cons_append, List.nil_append] | rfl); (first | dsimp only [Env.putR, argEnv, pure1, newPtr, applyE, hset, List.length_cons, List.length_nil, List.length_append, List.set, List.cons_append, List.nil_append] | rfl))
                      | refine ⟨_, _, _, _, _, rfl, rfl, rfl, Fits.mk (by first | exact Nat.le_of_ble_eq_true rfl | (dsimp only; omega)), rfl, ?_⟩
                      | refine ⟨_, _, _, _, _, rfl, _, rfl, ?_⟩
                      | refine ⟨_, _, _, _, _, rfl, Fits.mk (by first | exact Nat.le_of_ble_eq_true rfl | (dsimp only; omega)), _, rfl, ?_⟩
                      | refine ⟨by decide, ?_⟩
                      | refine ⟨_, rfl, ?_⟩
                      | fail
                    rfl
                  ·
                    refine PureF.E (CallP.of_body (C_ok W0) B.tumblerref04_field rfl rfl rfl ?_)
                    repeat' first
                      | refine brP.tD (by omega) ?_
                      | refine brP.fD (by omega) ?_
                      | refine brP.fN (by omega) ?_
                      | refine ⟨InB.mk (by omega) (by omega), ?_⟩
                      | refine ⟨SlB.mk (by omega) (by omega) (by omega), ?_⟩
                      | refine (mp).call ?_
                      | (apply Here.norm; (first | dsimp only [Env.putR, argEnv, pure1, newPtr, applyE, hset, List.length_cons, List.length_nil, List.length_append, List.set, List.cons_append, List.nil_append] | rfl); (first | dsimp only [Env.putR, argEnv, pure1, newPtr, applyE, hset, List.length_cons, List.length_nil, List.length_append, List.set, List.cons_append, List.nil_append] | rfl))
                      | refine ⟨_, _, _, _, _, rfl, rfl, rfl, Fits.mk (by first | exact Nat.le_of_ble_eq_true rfl | (dsimp only; omega)), rfl, ?_⟩
                      | refine ⟨_, _, _, _, _, rfl, _, rfl, ?_⟩
                      | refine ⟨_, _, _, _, _, rfl, Fits.mk (by first | exact Nat.le_of_ble_eq_true rfl | (dsimp only; omega)), _, rfl, ?_⟩
                      | refine ⟨by decide, ?_⟩
                      | refine ⟨_, rfl, ?_⟩
                      | fail
                    rfl
            ·
              refine PureF.E (CallP.of_body (C_ok W0) B.tumblerref04_field rfl rfl rfl ?_)
              repeat' first
                | refine brP.tD (by omega) ?_
                | refine brP.tN (by omega) ?_
                | refine brP.fN (by omega) ?_
                | refine ⟨InB.mk (by omega) (by omega), ?_⟩
                | refine ⟨SlB.mk (by omega) (by omega) (by omega), ?_⟩
                | refine (mp).call ?_
                | (apply Here.norm; (first | dsimp only [Env.putR, argEnv, pure1, newPtr, applyE, hset, List.length_cons, List.length_nil, List.length_append, List.set, List.cons_append, List.nil_append] | rfl); (first | dsimp only [Env.putR, argEnv, pure1, newPtr, applyE, hset, List.length_cons, List.length_nil, List.length_append, List.set, List.cons_append, List.nil_append] | rfl))
                | refine ⟨_, _, _, _, _, rfl, rfl, rfl, Fits.mk (by first | exact Nat.le_of_ble_eq_true rfl | (dsimp only; omega)), rfl, ?_⟩
                | refine ⟨_, _, _, _, _, rfl, Fits.mk (by first | exact Nat.le_of_ble_eq_true rfl | (dsimp only; omega)), _, rfl, ?_⟩
                | refine ⟨_, rfl, ?_⟩
                | fail
              rfl
    · have b64 := u8_ne c64
      rw [← eb, show ((64 : UInt8).toNat : Int) = 64 from rfl] at b64
      have h64 : ¬ heads 64 (c :: u) = true := fun h => c64 (of_decide_eq_true h)
      by_cases c84 : c = 84
      · have b84 : byteAt (bs (c :: u)) 0 = 84 := by rw [eb, c84]; rfl
        have h84 : heads 84 (c :: u) = true := decide_eq_true c84
        cases t with
        | true =>
          rw [fin (⟨nm, k, v, d, mb, r, true, x⟩, rr, 46) (by unfold stepP; rw [if_neg (by simp), if_neg (by simp)])]
          refine PureF.E (CallP.of_body (C_ok W0) B.tumblerref04_field rfl rfl rfl ?_)
          repeat' first
            | refine brP.tN (by omega) ?_
            | refine brP.fN (by omega) ?_
            | refine ⟨InB.mk (by omega) (by omega), ?_⟩
            | (apply Here.norm; (first | dsimp only [Env.putR, argEnv, pure1, newPtr, applyE, hset, List.length_cons, List.length_nil, List.length_append, List.set, List.cons_append, List.nil_append] | rfl); (first | dsimp only [Env.putR, argEnv, pure1, newPtr, applyE, hset, List.length_cons, List.length_nil, List.length_append, List.set, List.cons_append, List.nil_append] | rfl))
            | refine ⟨_, _, _, _, _, rfl, rfl, rfl, Fits.mk (by first | exact Nat.le_of_ble_eq_true rfl | (dsimp only; omega)), rfl, ?_⟩
            | refine ⟨_, _, _, _, _, rfl, Fits.mk (by first | exact Nat.le_of_ble_eq_true rfl | (dsimp only; omega)), _, rfl, ?_⟩
            | fail
          rfl
        | false =>
          cases hv : (stampV u).2 with
          | true =>
            rw [ss.1, hv, ss.2 hv] at st
            rw [fin (⟨nm, k, v, d, mb, r, true, (stampV u).1⟩, rr, 0) (by unfold stepP; rw [if_neg (fun z => h64 z.1), if_pos ⟨h84, rfl⟩, List.tail_cons, if_pos hv])]
            refine PureF.E (CallP.of_body (C_ok W0) B.tumblerref04_field rfl rfl rfl ?_)
            repeat' first
              | refine brP.fD (by omega) ?_
              | refine brP.tN (by omega) ?_
              | refine brP.fN (by omega) ?_
              | refine ⟨InB.mk (by omega) (by omega), ?_⟩
              | refine ⟨SlB.mk (by omega) (by omega) (by omega), ?_⟩
              | refine (st).call ?_
              | (apply Here.norm; (first | dsimp only [Env.putR, argEnv, pure1, newPtr, applyE, hset, List.length_cons, List.length_nil, List.length_append, List.set, List.cons_append, List.nil_append] | rfl); (first | dsimp only [Env.putR, argEnv, pure1, newPtr, applyE, hset, List.length_cons, List.length_nil, List.length_append, List.set, List.cons_append, List.nil_append] | rfl))
              | refine ⟨_, _, _, _, _, rfl, rfl, rfl, Fits.mk (by first | exact Nat.le_of_ble_eq_true rfl | (dsimp only; omega)), rfl, ?_⟩
              | refine ⟨_, _, _, _, _, rfl, Fits.mk (by first | exact Nat.le_of_ble_eq_true rfl | (dsimp only; omega)), _, rfl, ?_⟩
              | refine ⟨by decide, ?_⟩
              | refine ⟨_, rfl, ?_⟩
              | fail
            rfl
          | false =>
            rw [ss.1, hv] at st
            rw [fin (⟨nm, k, v, d, mb, r, false, x⟩, rr, 45) (by unfold stepP; rw [if_neg (fun z => h64 z.1), if_pos ⟨h84, rfl⟩, List.tail_cons, if_neg (by rw [hv]; simp)])]
            refine PureF.E (CallP.of_body (C_ok W0) B.tumblerref04_field rfl rfl rfl ?_)
            repeat' first
              | refine brP.fD (by omega) ?_
              | refine brP.tN (by omega) ?_
              | refine brP.fN (by omega) ?_
              | refine ⟨InB.mk (by omega) (by omega), ?_⟩
              | refine ⟨SlB.mk (by omega) (by omega) (by omega), ?_⟩
              | refine (st).call ?_
              | (apply Here.norm; (first | dsimp only [Env.putR, argEnv, pure1, newPtr, applyE, hset, List.length_cons, List.length_nil, List.length_append, List.set, List.cons_append, List.nil_append] | rfl); (first | dsimp only [Env.putR, argEnv, pure1, newPtr, applyE, hset, List.length_cons, List.length_nil, List.length_append, List.set, List.cons_append, List.nil_append] | rfl))
              | refine ⟨_, _, _, _, _, rfl, rfl, rfl, Fits.mk (by first | exact Nat.le_of_ble_eq_true rfl | (dsimp only; omega)), rfl, ?_⟩
              | refine ⟨_, _, _, _, _, rfl, Fits.mk (by first | exact Nat.le_of_ble_eq_true rfl | (dsimp only; omega)), _, rfl, ?_⟩
              | refine ⟨_, rfl, ?_⟩
              | fail
            rfl
      · have b84 := u8_ne c84
        rw [← eb, show ((84 : UInt8).toNat : Int) = 84 from rfl] at b84
        have h84 : ¬ heads 84 (c :: u) = true := fun h => c84 (of_decide_eq_true h)
        rw [fin (⟨nm, k, v, d, mb, r, t, x⟩, rr, 46) (by unfold stepP; rw [if_neg (fun z => h64 z.1), if_neg (fun z => h84 z.1)])]
        refine PureF.E (CallP.of_body (C_ok W0) B.tumblerref04_field rfl rfl rfl ?_)
        repeat' first
          | refine brP.tN (by omega) ?_
          | refine ⟨InB.mk (by omega) (by omega), ?_⟩
          | (apply Here.norm; (first | dsimp only [Env.putR, argEnv, pure1, newPtr, applyE, hset, List.length_cons, List.length_nil, List.length_append, List.set, List.cons_append, List.nil_append] | rfl); (first | dsimp only [Env.putR, argEnv, pure1, newPtr, applyE, hset, List.length_cons, List.length_nil, List.length_append, List.set, List.cons_append, List.nil_append] | rfl))
          | refine ⟨_, _, _, _, _, rfl, rfl, rfl, Fits.mk (by first | exact Nat.le_of_ble_eq_true rfl | (dsimp only; omega)), rfl, ?_⟩
          | refine ⟨_, _, _, _, _, rfl, Fits.mk (by first | exact Nat.le_of_ble_eq_true rfl | (dsimp only; omega)), _, rfl, ?_⟩
          | fail
        rfl
end Go.Proofs.YtioahngbfdfcaaaDoor
