import Derived.Test.YtioahngbfdfcaaaDoorKLc
import Derived.Test.YtioahngbfdfcaaaDoorKNw
set_option linter.unusedVariables false
set_option linter.unusedSimpArgs false
namespace Go.Proofs.YtioahngbfdfcaaaDoor
open Go Go.Den Go.RowKit
variable {W0 : World}
/-! line: fields; Parse -/
/-- What stands behind the kind, from a place on: the event, the place, the error. -/
def fieldsF : Nat → Ev → Bool → List UInt8 → Nat → Ev × Int × Int
  | 0, e, _, _, _ => (e, 0, 0)
  | n + 1, e, rate, s, k =>
    if k ≤ s.length then
      (if heads 64 (pieceL s k) = true ∧ rate = false ∧ e.timed = false then
        (if (parseV (pieceL s k).tail).2 = 0 ∧ 1000 ≤ (parseV (pieceL s k).tail).1 ∧ (parseV (pieceL s k).tail).1 ≤ 1000000 ∧ mayK e.kind = true then
          fieldsF n { e with rate := (parseV (pieceL s k).tail).1 } true s (k + (pieceL s k).length + 1) else (e, (k : Int), 44))
      else if heads 84 (pieceL s k) = true ∧ e.timed = false then
        (if (stampV (pieceL s k).tail).2 = true then fieldsF n { e with timed := true, time := (stampV (pieceL s k).tail).1 } rate s (k + (pieceL s k).length + 1) else (e, (k : Int), 45))
      else (e, (k : Int), 46))
    else (e, 0, 0)
def fieldsL (e : Ev) (s : List UInt8) (k : Nat) : Ev × Int × Int := fieldsF (s.length + 1) e false s k
attribute [local irreducible] parseV stampV mayK
set_option maxRecDepth 20000 in
set_option maxHeartbeats 8000000 in
theorem fields_call (e : Ev) (s : List UInt8) (hs : s.length ≤ 1048576) (k : Nat) (hk : k ≤ s.length + 1) : CallP (C W0) I.line_fields [.pointer (some ⟨0, 0, none⟩), .func (.func I.line_cutter_1) #[] #[.pointer (some ⟨1, 0, none⟩), .pointer (some ⟨2, 0, none⟩)]] [evB e, atB k, sB false s]
    (fun u h => RT (C W0).W0 3 [u] h [.tuple #[.int .i64 (fieldsL e s k).2.1, .int .i64 (fieldsL e s k).2.2]] [evB (fieldsL e s k).1, .dead, sB false s]) (fun _ _ => False) := by
  refine CallP.of_body (C_ok W0) B.line_fields rfl rfl rfl ?_
  have ra := line_rated (W0 := W0) e.kind
  repeat' first
    | refine (ra).call ?_
    | (apply Here.norm; (first | dsimp only [Env.putR, argEnv, pure1, newPtr, applyE, hset, List.length_cons, List.length_nil, List.length_append, List.set, List.cons_append, List.nil_append] | rfl); (first | dsimp only [Env.putR, argEnv, pure1, newPtr, applyE, hset, List.length_cons, List.length_nil, List.length_append, List.set, List.cons_append, List.nil_append] | rfl))
    | refine ⟨_, _, _, _, _, rfl, _, rfl, ?_⟩
    | refine ⟨by decide, ?_⟩
    | refine ⟨_, rfl, ?_⟩
    | fail
  refine loop_I (C_ok W0) (fun q : Nat × Ev × Bool × Nat => q.2.2.2 ≤ s.length + 1 ∧ s.length + 1 - q.2.2.2 ≤ q.1 ∧ q.2.1.kind = e.kind ∧ fieldsF q.1 q.2.1 q.2.2.1 s q.2.2.2 = fieldsL e s k)
    (fun q => [(0, .pointer (some ⟨0, 0, none⟩)), (1, .func (.func I.line_cutter_1) #[] #[.pointer (some ⟨1, 0, none⟩), .pointer (some ⟨2, 0, none⟩)]), (6, .bool q.2.2.1), (8, .int .i64 0), (9, .bool (mayK e.kind))])
    (fun q => [evB q.2.1, atB q.2.2.2, sB false s]) (fun q => s.length + 1 - q.2.2.2) (s.length + 1, e, false, k) ⟨hk, by dsimp only; omega, rfl, rfl⟩ ⟨_, rfl, RT.of_eq rfl rfl⟩ ?_
  rintro ⟨n, f, rate, j⟩ ⟨g1, g2, g3, g4⟩
  dsimp only at g1 g2 g3 g4 ⊢
  have hm : mayK f.kind = mayK e.kind := by rw [g3]
  by_cases hj : j ≤ s.length
  · obtain ⟨m, rfl⟩ : ∃ m, n = m + 1 := ⟨n - 1, by omega⟩
    rw [fieldsF, if_pos hj] at g4
    have ne : ∀ nid, EffC (C W0) I.line_cutter_1 [.pointer (some ⟨1, 0, none⟩), .pointer (some ⟨2, 0, none⟩)] nid ⟨some (.tuple #[.string (bs (pieceL s j)), .int .i64 j, .bool true]), [(1, atB j), (2, sB false s)], [(1, atB (j + (pieceL s j).length + 1))], []⟩ := fun nid => by
      have h := next_eff (W0 := W0) s hs j (by omega) false 1 2 (by decide) nid
      rw [show nextV s j = .tuple #[.string (bs (pieceL s j)), .int .i64 j, .bool true] from if_pos hj, show nextAt s j = j + (pieceL s j).length + 1 from if_pos hj] at h
      exact h
    have pl := upto_len 124 (s.drop j)
    rw [List.length_drop, show (upto 124 (s.drop j)).length = (pieceL s j).length from rfl] at pl
    generalize pieceL s j = p at *
    cases p with
    | nil =>
      rw [if_neg (fun h => by cases h.1), if_neg (fun h => by cases h.1)] at g4
      rw [← g4]
      repeat' first
        | refine (ne _).call (by first | exact trivial | exact ⟨rfl, trivial⟩ | exact ⟨rfl, rfl, trivial⟩ | exact ⟨rfl, rfl, rfl, trivial⟩) ?_
        | (apply Here.norm; (first | dsimp only [Env.putR, argEnv, pure1, newPtr, applyE, hset, List.length_cons, List.length_nil, List.length_append, List.set, List.cons_append, List.nil_append] | rfl); (first | dsimp only [Env.putR, argEnv, pure1, newPtr, applyE, hset, List.length_cons, List.length_nil, List.length_append, List.set, List.cons_append, List.nil_append] | rfl))
        | refine ⟨_, rfl, ?_⟩
        | fail
      refine RT.ren [0, 1, 2] rfl rfl ?_ ?_
      all_goals (repeat' first
        | exact trivial
        | exact LTo.nil
        | refine ⟨⟨_, rfl, ?_, (fun z => by cases z)⟩, ?_⟩
        | refine BTo.cells (fun z => z) ?_
        | refine LTo.cons ?_ ?_
        | refine VTo.int ?_
        | refine VTo.bool ?_
        | refine VTo.string ?_
        | refine VTo.tuple ?_
        | (with_reducible rfl)
        | fail)
    | cons c t =>
      have eb := byteAt_0 c t
      have ns : ¬ bs (c :: t) = ⟨#[]⟩ := fun h => by have := bs_nil_iff.mp h; cases this
      have hl : (c :: t).length = t.length + 1 := rfl
      have hsz := bs_size (c :: t)
      have e1 : (bs (c :: t)).extract ((1 : Int).toNat) (((bs (c :: t)).size : Int)).toNat = bs t := by
        rw [Int.toNat_natCast, bs_extract, hsz]; simp
      have mt := micro_Parse (W0 := W0) t (by omega)
      have stp := line_stamp (W0 := W0) t (by omega)
      rw [← e1] at mt stp
      rw [show (c :: t).tail = t from rfl] at g4
      by_cases c64 : c = 64
      · subst c64
        have eb2 : byteAt (bs ((64 : UInt8) :: t)) 0 = 64 := eb
        rw [show heads 64 ((64 : UInt8) :: t) = true from rfl, show heads 84 ((64 : UInt8) :: t) = false from rfl] at g4
        cases hr : rate with
        | true =>
          rw [hr, if_neg (fun h => by cases h.2.1), if_neg (fun h => by cases h.1)] at g4
          rw [← g4]
          repeat' first
            | refine (ne _).call (by first | exact trivial | exact ⟨rfl, trivial⟩ | exact ⟨rfl, rfl, trivial⟩ | exact ⟨rfl, rfl, rfl, trivial⟩) ?_
            | (apply Here.norm; (first | dsimp only [Env.putR, argEnv, pure1, newPtr, applyE, hset, List.length_cons, List.length_nil, List.length_append, List.set, List.cons_append, List.nil_append] | rfl); (first | dsimp only [Env.putR, argEnv, pure1, newPtr, applyE, hset, List.length_cons, List.length_nil, List.length_append, List.set, List.cons_append, List.nil_append] | rfl))
            | refine ⟨InB.mk (by first | decide | omega) (by first | decide | omega), ?_⟩
            | refine ⟨_, rfl, ?_⟩
            | fail
          refine RT.ren [0, 1, 2] rfl rfl ?_ ?_
          all_goals (repeat' first
            | exact trivial
            | exact LTo.nil
            | refine ⟨⟨_, rfl, ?_, (fun z => by cases z)⟩, ?_⟩
            | refine BTo.cells (fun z => z) ?_
            | refine LTo.cons ?_ ?_
            | refine VTo.int ?_
            | refine VTo.bool ?_
            | refine VTo.string ?_
            | refine VTo.tuple ?_
            | (with_reducible rfl)
            | fail)
        | false =>
          cases ht : f.timed with
          | true =>
            rw [ht, if_neg (fun h => by cases h.2.2), if_neg (fun h => by cases h.1)] at g4
            rw [← g4]
            repeat' first
              | refine (ne _).call (by first | exact trivial | exact ⟨rfl, trivial⟩ | exact ⟨rfl, rfl, trivial⟩ | exact ⟨rfl, rfl, rfl, trivial⟩) ?_
              | refine brP.f (show (!f.timed) = false by rw [ht]; rfl) ?_
              | (apply Here.norm; (first | dsimp only [Env.putR, argEnv, pure1, newPtr, applyE, hset, List.length_cons, List.length_nil, List.length_append, List.set, List.cons_append, List.nil_append] | rfl); (first | dsimp only [Env.putR, argEnv, pure1, newPtr, applyE, hset, List.length_cons, List.length_nil, List.length_append, List.set, List.cons_append, List.nil_append] | rfl))
              | refine ⟨_, _, _, _, _, rfl, _, rfl, ?_⟩
              | refine ⟨InB.mk (by first | decide | omega) (by first | decide | omega), ?_⟩
              | refine ⟨by decide, ?_⟩
              | refine ⟨_, rfl, ?_⟩
              | fail
            refine RT.ren [0, 1, 2] rfl rfl ?_ ?_
            all_goals (repeat' first
              | exact trivial
              | exact LTo.nil
              | refine ⟨⟨_, rfl, ?_, (fun z => by cases z)⟩, ?_⟩
              | refine BTo.cells (fun z => z) ?_
              | refine LTo.cons ?_ ?_
              | refine VTo.int ?_
              | refine VTo.bool ?_
              | refine VTo.string ?_
              | refine VTo.tuple ?_
              | (with_reducible rfl)
              | fail)
          | false =>
            rw [if_pos ⟨rfl, hr, ht⟩, hm] at g4
            by_cases q1 : (parseV t).2 = 0
            · by_cases q2 : 1000 ≤ (parseV t).1
              · by_cases q3 : (parseV t).1 ≤ 1000000
                · cases q4 : mayK e.kind with
                  | true =>
                    rw [if_pos ⟨q1, q2, q3, q4⟩] at g4
                    have q4t : true = true := rfl
                    repeat' first
                      | refine brP.fD (by omega) ?_
                      | refine brP.fN (by omega) ?_
                      | refine (ne _).call (by first | exact trivial | exact ⟨rfl, trivial⟩ | exact ⟨rfl, rfl, trivial⟩ | exact ⟨rfl, rfl, rfl, trivial⟩) ?_
                      | refine (mt).call ?_
                      | refine brP.t (show (!f.timed) = true by rw [ht]; rfl) ?_
                      | (apply Here.norm; (first | dsimp only [Env.putR, argEnv, pure1, newPtr, applyE, hset, List.length_cons, List.length_nil, List.length_append, List.set, List.cons_append, List.nil_append] | rfl); (first | dsimp only [Env.putR, argEnv, pure1, newPtr, applyE, hset, List.length_cons, List.length_nil, List.length_append, List.set, List.cons_append, List.nil_append] | rfl))
                      | refine ⟨_, _, _, _, _, rfl, rfl, rfl, Fits.mk (by first | exact Nat.le_of_ble_eq_true rfl | (dsimp only; omega)), rfl, ?_⟩
                      | refine ⟨_, _, _, _, _, rfl, _, rfl, ?_⟩
                      | refine ⟨InB.mk (by first | decide | omega) (by first | decide | omega), ?_⟩
                      | refine ⟨SlB.mk (by first | omega | decide) (by first | omega | decide) (by first | omega | decide), ?_⟩
                      | refine ⟨by decide, ?_⟩
                      | refine ⟨_, rfl, ?_⟩
                      | fail
                    apply Again.mk (m, { f with rate := (parseV t).1 }, true, j + (t.length + 1) + 1)
                    · exact ⟨by dsimp only; omega, by dsimp only; omega, g3, g4⟩
                    · dsimp only; omega
                    exact ⟨_, rfl, RT.of_eq rfl rfl⟩
                  | false =>
                    rw [if_neg (fun h => by rw [q4] at h; cases h.2.2.2)] at g4
                    rw [← g4]
                    repeat' first
                      | refine brP.fD (by omega) ?_
                      | refine brP.fN (by omega) ?_
                      | refine (ne _).call (by first | exact trivial | exact ⟨rfl, trivial⟩ | exact ⟨rfl, rfl, trivial⟩ | exact ⟨rfl, rfl, rfl, trivial⟩) ?_
                      | refine (mt).call ?_
                      | refine brP.t (show (!f.timed) = true by rw [ht]; rfl) ?_
                      | (apply Here.norm; (first | dsimp only [Env.putR, argEnv, pure1, newPtr, applyE, hset, List.length_cons, List.length_nil, List.length_append, List.set, List.cons_append, List.nil_append] | rfl); (first | dsimp only [Env.putR, argEnv, pure1, newPtr, applyE, hset, List.length_cons, List.length_nil, List.length_append, List.set, List.cons_append, List.nil_append] | rfl))
                      | refine ⟨_, _, _, _, _, rfl, _, rfl, ?_⟩
                      | refine ⟨InB.mk (by first | decide | omega) (by first | decide | omega), ?_⟩
                      | refine ⟨SlB.mk (by first | omega | decide) (by first | omega | decide) (by first | omega | decide), ?_⟩
                      | refine ⟨by decide, ?_⟩
                      | refine ⟨_, rfl, ?_⟩
                      | fail
                    refine RT.ren [0, 1, 2] rfl rfl ?_ ?_
                    all_goals (repeat' first
                      | exact trivial
                      | exact LTo.nil
                      | refine ⟨⟨_, rfl, ?_, (fun z => by cases z)⟩, ?_⟩
                      | refine BTo.cells (fun z => z) ?_
                      | refine LTo.cons ?_ ?_
                      | refine VTo.int ?_
                      | refine VTo.bool ?_
                      | refine VTo.string ?_
                      | refine VTo.tuple ?_
                      | (with_reducible rfl)
                      | fail)
                · rw [if_neg (fun h => q3 h.2.2.1)] at g4
                  rw [← g4]
                  repeat' first
                    | refine brP.tD (by omega) ?_
                    | refine brP.fD (by omega) ?_
                    | refine brP.fN (by omega) ?_
                    | refine (ne _).call (by first | exact trivial | exact ⟨rfl, trivial⟩ | exact ⟨rfl, rfl, trivial⟩ | exact ⟨rfl, rfl, rfl, trivial⟩) ?_
                    | refine (mt).call ?_
                    | refine brP.t (show (!f.timed) = true by rw [ht]; rfl) ?_
                    | (apply Here.norm; (first | dsimp only [Env.putR, argEnv, pure1, newPtr, applyE, hset, List.length_cons, List.length_nil, List.length_append, List.set, List.cons_append, List.nil_append] | rfl); (first | dsimp only [Env.putR, argEnv, pure1, newPtr, applyE, hset, List.length_cons, List.length_nil, List.length_append, List.set, List.cons_append, List.nil_append] | rfl))
                    | refine ⟨_, _, _, _, _, rfl, _, rfl, ?_⟩
                    | refine ⟨InB.mk (by first | decide | omega) (by first | decide | omega), ?_⟩
                    | refine ⟨SlB.mk (by first | omega | decide) (by first | omega | decide) (by first | omega | decide), ?_⟩
                    | refine ⟨by decide, ?_⟩
                    | refine ⟨_, rfl, ?_⟩
                    | fail
                  refine RT.ren [0, 1, 2] rfl rfl ?_ ?_
                  all_goals (repeat' first
                    | exact trivial
                    | exact LTo.nil
                    | refine ⟨⟨_, rfl, ?_, (fun z => by cases z)⟩, ?_⟩
                    | refine BTo.cells (fun z => z) ?_
                    | refine LTo.cons ?_ ?_
                    | refine VTo.int ?_
                    | refine VTo.bool ?_
                    | refine VTo.string ?_
                    | refine VTo.tuple ?_
                    | (with_reducible rfl)
                    | fail)
              · rw [if_neg (fun h => q2 h.2.1)] at g4
                rw [← g4]
                repeat' first
                  | refine brP.tD (by omega) ?_
                  | refine brP.fN (by omega) ?_
                  | refine (ne _).call (by first | exact trivial | exact ⟨rfl, trivial⟩ | exact ⟨rfl, rfl, trivial⟩ | exact ⟨rfl, rfl, rfl, trivial⟩) ?_
                  | refine (mt).call ?_
                  | refine brP.t (show (!f.timed) = true by rw [ht]; rfl) ?_
                  | (apply Here.norm; (first | dsimp only [Env.putR, argEnv, pure1, newPtr, applyE, hset, List.length_cons, List.length_nil, List.length_append, List.set, List.cons_append, List.nil_append] | rfl); (first | dsimp only [Env.putR, argEnv, pure1, newPtr, applyE, hset, List.length_cons, List.length_nil, List.length_append, List.set, List.cons_append, List.nil_append] | rfl))
                  | refine ⟨_, _, _, _, _, rfl, _, rfl, ?_⟩
                  | refine ⟨InB.mk (by first | decide | omega) (by first | decide | omega), ?_⟩
                  | refine ⟨SlB.mk (by first | omega | decide) (by first | omega | decide) (by first | omega | decide), ?_⟩
                  | refine ⟨by decide, ?_⟩
                  | refine ⟨_, rfl, ?_⟩
                  | fail
                refine RT.ren [0, 1, 2] rfl rfl ?_ ?_
                all_goals (repeat' first
                  | exact trivial
                  | exact LTo.nil
                  | refine ⟨⟨_, rfl, ?_, (fun z => by cases z)⟩, ?_⟩
                  | refine BTo.cells (fun z => z) ?_
                  | refine LTo.cons ?_ ?_
                  | refine VTo.int ?_
                  | refine VTo.bool ?_
                  | refine VTo.string ?_
                  | refine VTo.tuple ?_
                  | (with_reducible rfl)
                  | fail)
            · rw [if_neg (fun h => q1 h.1)] at g4
              rw [← g4]
              repeat' first
                | refine brP.tN (by omega) ?_
                | refine (ne _).call (by first | exact trivial | exact ⟨rfl, trivial⟩ | exact ⟨rfl, rfl, trivial⟩ | exact ⟨rfl, rfl, rfl, trivial⟩) ?_
                | refine (mt).call ?_
                | refine brP.t (show (!f.timed) = true by rw [ht]; rfl) ?_
                | (apply Here.norm; (first | dsimp only [Env.putR, argEnv, pure1, newPtr, applyE, hset, List.length_cons, List.length_nil, List.length_append, List.set, List.cons_append, List.nil_append] | rfl); (first | dsimp only [Env.putR, argEnv, pure1, newPtr, applyE, hset, List.length_cons, List.length_nil, List.length_append, List.set, List.cons_append, List.nil_append] | rfl))
                | refine ⟨_, _, _, _, _, rfl, _, rfl, ?_⟩
                | refine ⟨InB.mk (by first | decide | omega) (by first | decide | omega), ?_⟩
                | refine ⟨SlB.mk (by first | omega | decide) (by first | omega | decide) (by first | omega | decide), ?_⟩
                | refine ⟨by decide, ?_⟩
                | refine ⟨_, rfl, ?_⟩
                | fail
              refine RT.ren [0, 1, 2] rfl rfl ?_ ?_
              all_goals (repeat' first
                | exact trivial
                | exact LTo.nil
                | refine ⟨⟨_, rfl, ?_, (fun z => by cases z)⟩, ?_⟩
                | refine BTo.cells (fun z => z) ?_
                | refine LTo.cons ?_ ?_
                | refine VTo.int ?_
                | refine VTo.bool ?_
                | refine VTo.string ?_
                | refine VTo.tuple ?_
                | (with_reducible rfl)
                | fail)
      · have eb2 := u8_ne c64
        rw [← eb, show ((64 : UInt8).toNat : Int) = 64 from rfl] at eb2
        rw [show heads 64 (c :: t) = false from decide_eq_false c64, if_neg (fun h => by cases h.1)] at g4
        by_cases c84 : c = 84
        · subst c84
          have eb3 : byteAt (bs ((84 : UInt8) :: t)) 0 = 84 := eb
          rw [show heads 84 ((84 : UInt8) :: t) = true from rfl] at g4
          cases ht : f.timed with
          | true =>
            rw [ht, if_neg (fun h => by cases h.2)] at g4
            rw [← g4]
            repeat' first
              | refine (ne _).call (by first | exact trivial | exact ⟨rfl, trivial⟩ | exact ⟨rfl, rfl, trivial⟩ | exact ⟨rfl, rfl, rfl, trivial⟩) ?_
              | refine brP.f (show (!f.timed) = false by rw [ht]; rfl) ?_
              | (apply Here.norm; (first | dsimp only [Env.putR, argEnv, pure1, newPtr, applyE, hset, List.length_cons, List.length_nil, List.length_append, List.set, List.cons_append, List.nil_append] | rfl); (first | dsimp only [Env.putR, argEnv, pure1, newPtr, applyE, hset, List.length_cons, List.length_nil, List.length_append, List.set, List.cons_append, List.nil_append] | rfl))
              | refine ⟨_, _, _, _, _, rfl, _, rfl, ?_⟩
              | refine ⟨InB.mk (by first | decide | omega) (by first | decide | omega), ?_⟩
              | refine ⟨by decide, ?_⟩
              | refine ⟨_, rfl, ?_⟩
              | fail
            refine RT.ren [0, 1, 2] rfl rfl ?_ ?_
            all_goals (repeat' first
              | exact trivial
              | exact LTo.nil
              | refine ⟨⟨_, rfl, ?_, (fun z => by cases z)⟩, ?_⟩
              | refine BTo.cells (fun z => z) ?_
              | refine LTo.cons ?_ ?_
              | refine VTo.int ?_
              | refine VTo.bool ?_
              | refine VTo.string ?_
              | refine VTo.tuple ?_
              | (with_reducible rfl)
              | fail)
          | false =>
            rw [ht, if_pos ⟨rfl, rfl⟩] at g4
            cases q1 : (stampV t).2 with
            | true =>
              rw [q1, if_pos rfl] at g4
              rw [q1] at stp
              repeat' first
                | refine (ne _).call (by first | exact trivial | exact ⟨rfl, trivial⟩ | exact ⟨rfl, rfl, trivial⟩ | exact ⟨rfl, rfl, rfl, trivial⟩) ?_
                | refine (stp).call ?_
                | refine brP.t (show (!f.timed) = true by rw [ht]; rfl) ?_
                | (apply Here.norm; (first | dsimp only [Env.putR, argEnv, pure1, newPtr, applyE, hset, List.length_cons, List.length_nil, List.length_append, List.set, List.cons_append, List.nil_append] | rfl); (first | dsimp only [Env.putR, argEnv, pure1, newPtr, applyE, hset, List.length_cons, List.length_nil, List.length_append, List.set, List.cons_append, List.nil_append] | rfl))
                | refine ⟨_, _, _, _, _, rfl, rfl, rfl, Fits.mk (by first | exact Nat.le_of_ble_eq_true rfl | (dsimp only; omega)), rfl, ?_⟩
                | refine ⟨_, _, _, _, _, rfl, _, rfl, ?_⟩
                | refine ⟨InB.mk (by first | decide | omega) (by first | decide | omega), ?_⟩
                | refine ⟨SlB.mk (by first | omega | decide) (by first | omega | decide) (by first | omega | decide), ?_⟩
                | refine ⟨by decide, ?_⟩
                | refine ⟨_, rfl, ?_⟩
                | fail
              apply Again.mk (m, { f with timed := true, time := (stampV t).1 }, rate, j + (t.length + 1) + 1)
              · exact ⟨by dsimp only; omega, by dsimp only; omega, g3, g4⟩
              · dsimp only; omega
              exact ⟨_, rfl, RT.of_eq rfl rfl⟩
            | false =>
              rw [q1, if_neg (by decide)] at g4
              rw [q1] at stp
              rw [← g4]
              repeat' first
                | refine (ne _).call (by first | exact trivial | exact ⟨rfl, trivial⟩ | exact ⟨rfl, rfl, trivial⟩ | exact ⟨rfl, rfl, rfl, trivial⟩) ?_
                | refine (stp).call ?_
                | refine brP.t (show (!f.timed) = true by rw [ht]; rfl) ?_
                | (apply Here.norm; (first | dsimp only [Env.putR, argEnv, pure1, newPtr, applyE, hset, List.length_cons, List.length_nil, List.length_append, List.set, List.cons_append, List.nil_append] | rfl); (first | dsimp only [Env.putR, argEnv, pure1, newPtr, applyE, hset, List.length_cons, List.length_nil, List.length_append, List.set, List.cons_append, List.nil_append] | rfl))
                | refine ⟨_, _, _, _, _, rfl, _, rfl, ?_⟩
                | refine ⟨InB.mk (by first | decide | omega) (by first | decide | omega), ?_⟩
                | refine ⟨SlB.mk (by first | omega | decide) (by first | omega | decide) (by first | omega | decide), ?_⟩
                | refine ⟨by decide, ?_⟩
                | refine ⟨_, rfl, ?_⟩
                | fail
              refine RT.ren [0, 1, 2] rfl rfl ?_ ?_
              all_goals (repeat' first
                | exact trivial
                | exact LTo.nil
                | refine ⟨⟨_, rfl, ?_, (fun z => by cases z)⟩, ?_⟩
                | refine BTo.cells (fun z => z) ?_
                | refine LTo.cons ?_ ?_
                | refine VTo.int ?_
                | refine VTo.bool ?_
                | refine VTo.string ?_
                | refine VTo.tuple ?_
                | (with_reducible rfl)
                | fail)
        · have eb3 := u8_ne c84
          rw [← eb, show ((84 : UInt8).toNat : Int) = 84 from rfl] at eb3
          rw [show heads 84 (c :: t) = false from decide_eq_false c84, if_neg (fun h => by cases h.1)] at g4
          rw [← g4]
          repeat' first
            | refine brP.fD (by omega) ?_
            | refine (ne _).call (by first | exact trivial | exact ⟨rfl, trivial⟩ | exact ⟨rfl, rfl, trivial⟩ | exact ⟨rfl, rfl, rfl, trivial⟩) ?_
            | (apply Here.norm; (first | dsimp only [Env.putR, argEnv, pure1, newPtr, applyE, hset, List.length_cons, List.length_nil, List.length_append, List.set, List.cons_append, List.nil_append] | rfl); (first | dsimp only [Env.putR, argEnv, pure1, newPtr, applyE, hset, List.length_cons, List.length_nil, List.length_append, List.set, List.cons_append, List.nil_append] | rfl))
            | refine ⟨InB.mk (by first | decide | omega) (by first | decide | omega), ?_⟩
            | refine ⟨_, rfl, ?_⟩
            | fail
          refine RT.ren [0, 1, 2] rfl rfl ?_ ?_
          all_goals (repeat' first
            | exact trivial
            | exact LTo.nil
            | refine ⟨⟨_, rfl, ?_, (fun z => by cases z)⟩, ?_⟩
            | refine BTo.cells (fun z => z) ?_
            | refine LTo.cons ?_ ?_
            | refine VTo.int ?_
            | refine VTo.bool ?_
            | refine VTo.string ?_
            | refine VTo.tuple ?_
            | (with_reducible rfl)
            | fail)
  · have g5 : fieldsL e s k = (f, 0, 0) := by rw [← g4]; cases n with | zero => rfl | succ n => rw [fieldsF, if_neg hj]
    have ne : ∀ nid, EffC (C W0) I.line_cutter_1 [.pointer (some ⟨1, 0, none⟩), .pointer (some ⟨2, 0, none⟩)] nid ⟨some (.tuple #[.string ⟨#[]⟩, .int .i64 0, .bool false]), [(1, atB j), (2, sB false s)], [(1, atB j)], []⟩ := fun nid => by
      have h := next_eff (W0 := W0) s hs j (by omega) false 1 2 (by decide) nid
      rw [show nextV s j = .tuple #[.string ⟨#[]⟩, .int .i64 0, .bool false] from if_neg hj, show nextAt s j = j from if_neg hj] at h
      exact h
    rw [g5]
    repeat' first
      | refine (ne _).call (by first | exact trivial | exact ⟨rfl, trivial⟩ | exact ⟨rfl, rfl, trivial⟩ | exact ⟨rfl, rfl, rfl, trivial⟩) ?_
      | (apply Here.norm; (first | dsimp only [Env.putR, argEnv, pure1, newPtr, applyE, hset, List.length_cons, List.length_nil, List.length_append, List.set, List.cons_append, List.nil_append] | rfl); (first | dsimp only [Env.putR, argEnv, pure1, newPtr, applyE, hset, List.length_cons, List.length_nil, List.length_append, List.set, List.cons_append, List.nil_append] | rfl))
      | refine ⟨_, rfl, ?_⟩
      | fail
    refine RT.ren [0, 1, 2] rfl rfl ?_ ?_
    all_goals (repeat' first
      | exact trivial
      | exact LTo.nil
      | refine ⟨⟨_, rfl, ?_, (fun z => by cases z)⟩, ?_⟩
      | refine BTo.cells (fun z => z) ?_
      | refine LTo.cons ?_ ?_
      | refine VTo.int ?_
      | refine VTo.bool ?_
      | refine VTo.string ?_
      | refine VTo.tuple ?_
      | (with_reducible rfl)
      | fail)
end Go.Proofs.YtioahngbfdfcaaaDoor
