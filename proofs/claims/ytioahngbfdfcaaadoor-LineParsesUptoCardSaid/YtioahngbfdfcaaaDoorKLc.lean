import Derived.Test.YtioahngbfdfcaaaDoorKLb
set_option linter.unusedVariables false
set_option linter.unusedSimpArgs false
namespace Go.Proofs.YtioahngbfdfcaaaDoor
open Go Go.Den Go.RowKit
variable {W0 : World}
/-! line: an event's value -/
structure Ev where
  name : List UInt8
  kind : Int
  value : Int
  delta : Bool
  member : List UInt8
  rate : Int
  timed : Bool
  time : Int
abbrev evC (e : Ev) : List Value := [.string (bs e.name), .int .i64 e.kind, .int .i64 e.value, .bool e.delta, .string (bs e.member), .int .i64 e.rate, .bool e.timed, .int .i64 e.time]
abbrev evB (e : Ev) : ABlk := .cells (evC e) 1 true false Y.api_Event
def heads (b : UInt8) : List UInt8 → Bool
  | c :: _ => decide (c = b)
  | [] => false
/-- The number that a text says, into an event. -/
def takeN (e : Ev) (s : List UInt8) : Ev × Bool :=
  ({ e with value := (parseV s).1 }, decide ((parseV s).2 = 0) && (!decide (e.kind = 3) || (decide (0 ≤ (parseV s).1) && decide ((parseV s).1 ≤ 100000000000000))))
def takeV (e : Ev) (s : List UInt8) : Ev × Bool :=
  if e.kind = 4 then ({ e with member := s }, memL s)
  else if e.kind = 2 then (if heads 43 s = true then (if heads 45 s.tail = true then ({ e with delta := true }, false) else takeN { e with delta := true } s.tail) else takeN { e with delta := heads 45 s } s)
  else takeN e s
theorem byteAt_0 (c : UInt8) (t : List UInt8) : byteAt (bs (c :: t)) 0 = (c.toNat : Int) := byteAt_bs (l := c :: t) (i := 0) (by simp)
theorem u8_ne {c : UInt8} {b : UInt8} (h : c ≠ b) : (c.toNat : Int) ≠ (b.toNat : Int) := fun e => h (UInt8.toNat_inj.mp (by omega))
attribute [local irreducible] parseV
set_option maxRecDepth 20000 in
set_option maxHeartbeats 4000000 in
theorem take_call (e : Ev) (s : List UInt8) (hs : s.length ≤ 1048576) : CallP (C W0) I.line_takeValue [.pointer (some ⟨0, 0, none⟩), .string (bs s)] [evB e]
    (fun u h => RT (C W0).W0 1 [u] h [.bool (takeV e s).2] [evB (takeV e s).1]) (fun _ _ => False) := by
  have hsz := bs_size s
  have me := line_member (W0 := W0) s hs
  have mp := micro_Parse (W0 := W0) s hs
  refine CallP.of_body (C_ok W0) B.line_takeValue rfl rfl rfl ?_
  unfold takeV
  by_cases k4 : e.kind = 4
  · rw [if_pos k4]
    repeat' first
      | refine brP.tD (by omega) ?_
      | refine (me).call ?_
      | (apply Here.norm; (first | dsimp only [Env.putR, argEnv, pure1, newPtr, applyE, hset, List.length_cons, List.length_nil, List.length_append, List.set, List.cons_append, List.nil_append] | rfl); (first | dsimp only [Env.putR, argEnv, pure1, newPtr, applyE, hset, List.length_cons, List.length_nil, List.length_append, List.set, List.cons_append, List.nil_append] | rfl))
      | refine ⟨_, _, _, _, _, rfl, rfl, rfl, Fits.mk (by first | exact Nat.le_of_ble_eq_true rfl | (dsimp only; omega)), rfl, ?_⟩
      | refine ⟨_, _, _, _, _, rfl, _, rfl, ?_⟩
      | refine ⟨by decide, ?_⟩
      | fail
    exact RT.of_eq rfl rfl
  · rw [if_neg k4]
    by_cases k2 : e.kind = 2
    · rw [if_pos k2]
      cases s with
      | nil =>
        rw [show heads 43 [] = false from rfl, if_neg (by decide), show heads 45 [] = false from rfl]
        repeat' first
          | refine brP.tD (by omega) ?_
          | refine brP.fD (by omega) ?_
          | refine brP.tN (by omega) ?_
          | refine (mp).call ?_
          | (apply Here.norm; (first | dsimp only [Env.putR, argEnv, pure1, newPtr, applyE, hset, List.length_cons, List.length_nil, List.length_append, List.set, List.cons_append, List.nil_append] | rfl); (first | dsimp only [Env.putR, argEnv, pure1, newPtr, applyE, hset, List.length_cons, List.length_nil, List.length_append, List.set, List.cons_append, List.nil_append] | rfl))
          | refine brP.introD (fun h => ?_) (fun h => ?_)
          | refine ⟨_, _, _, _, _, rfl, rfl, rfl, Fits.mk (by first | exact Nat.le_of_ble_eq_true rfl | (dsimp only; omega)), rfl, ?_⟩
          | refine ⟨_, _, _, _, _, rfl, _, rfl, ?_⟩
          | refine ⟨by decide, ?_⟩
          | refine ⟨_, rfl, ?_⟩
          | fail
        all_goals (refine RT.of_eq (congrArg (fun b => [Value.bool b]) ?_) (by first | rfl | (rw [dq]; rfl)))
        all_goals (unfold takeN; dsimp only)
        all_goals first
          | rfl
          | (simp [*]; done)
      | cons c t =>
        have eb := byteAt_0 c t
        have ns : ¬ bs (c :: t) = ⟨#[]⟩ := fun h => by have := bs_nil_iff.mp h; cases this
        have hl : (c :: t).length = t.length + 1 := rfl
        by_cases c43 : c = 43
        · subst c43
          have eb2 : byteAt (bs ((43 : UInt8) :: t)) 0 = 43 := eb
          rw [show heads 43 ((43 : UInt8) :: t) = true from rfl, if_pos rfl, show ((43 : UInt8) :: t).tail = t from rfl]
          have e1 : (bs ((43 : UInt8) :: t)).extract ((1 : Int).toNat) (((bs ((43 : UInt8) :: t)).size : Int)).toNat = bs t := by
            rw [Int.toNat_natCast, bs_extract, hsz]; simp
          have mt := micro_Parse (W0 := W0) t (by omega)
          have sz1 := bs_size t
          cases t with
          | nil =>
            have ke : bs ([] : List UInt8) = ⟨#[]⟩ := rfl
            rw [← e1] at mt ke
            rw [show heads 45 [] = false from rfl, if_neg (by decide)]
            repeat' first
              | refine brP.tD (by omega) ?_
              | refine brP.fD (by omega) ?_
              | refine brP.tN (by omega) ?_
              | refine (mt).call ?_
              | (apply Here.norm; (first | dsimp only [Env.putR, argEnv, pure1, newPtr, applyE, hset, List.length_cons, List.length_nil, List.length_append, List.set, List.cons_append, List.nil_append] | rfl); (first | dsimp only [Env.putR, argEnv, pure1, newPtr, applyE, hset, List.length_cons, List.length_nil, List.length_append, List.set, List.cons_append, List.nil_append] | rfl))
              | refine brP.introD (fun h => ?_) (fun h => ?_)
              | refine ⟨_, _, _, _, _, rfl, rfl, rfl, Fits.mk (by first | exact Nat.le_of_ble_eq_true rfl | (dsimp only; omega)), rfl, ?_⟩
              | refine ⟨_, _, _, _, _, rfl, _, rfl, ?_⟩
              | refine ⟨InB.mk (by first | decide | omega) (by first | decide | omega), ?_⟩
              | refine ⟨SlB.mk (by first | omega | decide) (by first | omega | decide) (by first | omega | decide), ?_⟩
              | refine ⟨by decide, ?_⟩
              | refine ⟨_, rfl, ?_⟩
              | fail
            all_goals (refine RT.of_eq (congrArg (fun b => [Value.bool b]) ?_) (by first | rfl | (rw [dq]; rfl)))
            all_goals (unfold takeN; dsimp only)
            all_goals first
              | rfl
              | (simp [*]; done)
          | cons d r =>
            have ns1 : ¬ bs (d :: r) = ⟨#[]⟩ := fun h => by have := bs_nil_iff.mp h; cases this
            have ed := byteAt_0 d r
            have hl1 : (d :: r).length = r.length + 1 := rfl
            rw [← e1] at mt ns1 ed sz1
            by_cases d45 : d = 45
            · subst d45
              have ed2 : byteAt ((bs ((43 : UInt8) :: 45 :: r)).extract ((1 : Int).toNat) (((bs ((43 : UInt8) :: 45 :: r)).size : Int)).toNat) 0 = 45 := ed
              rw [show heads 45 ((45 : UInt8) :: r) = true from rfl, if_pos rfl]
              repeat' first
                | refine brP.tD (by omega) ?_
                | refine brP.fD (by omega) ?_
                | refine brP.tN (by omega) ?_
                | (apply Here.norm; (first | dsimp only [Env.putR, argEnv, pure1, newPtr, applyE, hset, List.length_cons, List.length_nil, List.length_append, List.set, List.cons_append, List.nil_append] | rfl); (first | dsimp only [Env.putR, argEnv, pure1, newPtr, applyE, hset, List.length_cons, List.length_nil, List.length_append, List.set, List.cons_append, List.nil_append] | rfl))
                | refine ⟨_, _, _, _, _, rfl, rfl, rfl, Fits.mk (by first | exact Nat.le_of_ble_eq_true rfl | (dsimp only; omega)), rfl, ?_⟩
                | refine ⟨_, _, _, _, _, rfl, _, rfl, ?_⟩
                | refine ⟨InB.mk (by first | decide | omega) (by first | decide | omega), ?_⟩
                | refine ⟨SlB.mk (by first | omega | decide) (by first | omega | decide) (by first | omega | decide), ?_⟩
                | refine ⟨by decide, ?_⟩
                | fail
              exact RT.of_eq rfl rfl
            · have ed2 := u8_ne d45
              rw [← ed, show ((45 : UInt8).toNat : Int) = 45 from rfl] at ed2
              rw [show heads 45 (d :: r) = false from decide_eq_false d45, if_neg (by decide)]
              repeat' first
                | refine brP.tD (by omega) ?_
                | refine brP.fD (by omega) ?_
                | refine brP.tN (by omega) ?_
                | refine (mt).call ?_
                | (apply Here.norm; (first | dsimp only [Env.putR, argEnv, pure1, newPtr, applyE, hset, List.length_cons, List.length_nil, List.length_append, List.set, List.cons_append, List.nil_append] | rfl); (first | dsimp only [Env.putR, argEnv, pure1, newPtr, applyE, hset, List.length_cons, List.length_nil, List.length_append, List.set, List.cons_append, List.nil_append] | rfl))
                | refine brP.introD (fun h => ?_) (fun h => ?_)
                | refine ⟨_, _, _, _, _, rfl, rfl, rfl, Fits.mk (by first | exact Nat.le_of_ble_eq_true rfl | (dsimp only; omega)), rfl, ?_⟩
                | refine ⟨_, _, _, _, _, rfl, _, rfl, ?_⟩
                | refine ⟨InB.mk (by first | decide | omega) (by first | decide | omega), ?_⟩
                | refine ⟨SlB.mk (by first | omega | decide) (by first | omega | decide) (by first | omega | decide), ?_⟩
                | refine ⟨by decide, ?_⟩
                | refine ⟨_, rfl, ?_⟩
                | fail
              all_goals (refine RT.of_eq (congrArg (fun b => [Value.bool b]) ?_) (by first | rfl | (rw [dq]; rfl)))
              all_goals (unfold takeN; dsimp only)
              all_goals first
                | rfl
                | (simp [*]; done)
        · have eb2 := u8_ne c43
          rw [← eb, show ((43 : UInt8).toNat : Int) = 43 from rfl] at eb2
          rw [show heads 43 (c :: t) = false from decide_eq_false c43, if_neg (by decide)]
          by_cases c45 : c = 45
          · subst c45
            have eb3 : byteAt (bs ((45 : UInt8) :: t)) 0 = 45 := eb
            have dq : decide (byteAt (bs ((45 : UInt8) :: t)) 0 = 45) = true := decide_eq_true eb3
            rw [show heads 45 ((45 : UInt8) :: t) = true from rfl]
            repeat' first
              | refine brP.tD (by omega) ?_
              | refine brP.fD (by omega) ?_
              | refine brP.tN (by omega) ?_
              | refine (mp).call ?_
              | (apply Here.norm; (first | dsimp only [Env.putR, argEnv, pure1, newPtr, applyE, hset, List.length_cons, List.length_nil, List.length_append, List.set, List.cons_append, List.nil_append] | rfl); (first | dsimp only [Env.putR, argEnv, pure1, newPtr, applyE, hset, List.length_cons, List.length_nil, List.length_append, List.set, List.cons_append, List.nil_append] | rfl))
              | refine brP.introD (fun h => ?_) (fun h => ?_)
              | refine ⟨_, _, _, _, _, rfl, rfl, rfl, Fits.mk (by first | exact Nat.le_of_ble_eq_true rfl | (dsimp only; omega)), rfl, ?_⟩
              | refine ⟨_, _, _, _, _, rfl, _, rfl, ?_⟩
              | refine ⟨InB.mk (by first | decide | omega) (by first | decide | omega), ?_⟩
              | refine ⟨by decide, ?_⟩
              | refine ⟨_, rfl, ?_⟩
              | fail
            all_goals (refine RT.of_eq (congrArg (fun b => [Value.bool b]) ?_) (by first | rfl | (rw [dq]; rfl)))
            all_goals (unfold takeN; dsimp only)
            all_goals first
              | rfl
              | (simp [*]; done)
          · have eb3 := u8_ne c45
            rw [← eb, show ((45 : UInt8).toNat : Int) = 45 from rfl] at eb3
            have dq : decide (byteAt (bs (c :: t)) 0 = 45) = false := decide_eq_false eb3
            rw [show heads 45 (c :: t) = false from decide_eq_false c45]
            repeat' first
              | refine brP.tD (by omega) ?_
              | refine brP.fD (by omega) ?_
              | refine brP.tN (by omega) ?_
              | refine (mp).call ?_
              | (apply Here.norm; (first | dsimp only [Env.putR, argEnv, pure1, newPtr, applyE, hset, List.length_cons, List.length_nil, List.length_append, List.set, List.cons_append, List.nil_append] | rfl); (first | dsimp only [Env.putR, argEnv, pure1, newPtr, applyE, hset, List.length_cons, List.length_nil, List.length_append, List.set, List.cons_append, List.nil_append] | rfl))
              | refine brP.introD (fun h => ?_) (fun h => ?_)
              | refine ⟨_, _, _, _, _, rfl, rfl, rfl, Fits.mk (by first | exact Nat.le_of_ble_eq_true rfl | (dsimp only; omega)), rfl, ?_⟩
              | refine ⟨_, _, _, _, _, rfl, _, rfl, ?_⟩
              | refine ⟨InB.mk (by first | decide | omega) (by first | decide | omega), ?_⟩
              | refine ⟨by decide, ?_⟩
              | refine ⟨_, rfl, ?_⟩
              | fail
            all_goals (refine RT.of_eq (congrArg (fun b => [Value.bool b]) ?_) (by first | rfl | (rw [dq]; rfl)))
            all_goals (unfold takeN; dsimp only)
            all_goals first
              | rfl
              | (simp [*]; done)
    · rw [if_neg k2]
      by_cases k3 : e.kind = 3
      ·
        repeat' first
          | refine brP.fD (by omega) ?_
          | refine brP.fN (by omega) ?_
          | refine (mp).call ?_
          | (apply Here.norm; (first | dsimp only [Env.putR, argEnv, pure1, newPtr, applyE, hset, List.length_cons, List.length_nil, List.length_append, List.set, List.cons_append, List.nil_append] | rfl); (first | dsimp only [Env.putR, argEnv, pure1, newPtr, applyE, hset, List.length_cons, List.length_nil, List.length_append, List.set, List.cons_append, List.nil_append] | rfl))
          | refine brP.introD (fun h => ?_) (fun h => ?_)
          | refine ⟨_, _, _, _, _, rfl, rfl, rfl, Fits.mk (by first | exact Nat.le_of_ble_eq_true rfl | (dsimp only; omega)), rfl, ?_⟩
          | refine ⟨_, _, _, _, _, rfl, _, rfl, ?_⟩
          | refine ⟨by decide, ?_⟩
          | refine ⟨_, rfl, ?_⟩
          | fail
        all_goals (refine RT.of_eq (congrArg (fun b => [Value.bool b]) ?_) (by first | rfl | (rw [dq]; rfl)))
        all_goals (unfold takeN; dsimp only)
        all_goals first
          | rfl
          | (simp [*]; done)
      ·
        repeat' first
          | refine brP.fD (by omega) ?_
          | refine brP.tN (by omega) ?_
          | refine (mp).call ?_
          | (apply Here.norm; (first | dsimp only [Env.putR, argEnv, pure1, newPtr, applyE, hset, List.length_cons, List.length_nil, List.length_append, List.set, List.cons_append, List.nil_append] | rfl); (first | dsimp only [Env.putR, argEnv, pure1, newPtr, applyE, hset, List.length_cons, List.length_nil, List.length_append, List.set, List.cons_append, List.nil_append] | rfl))
          | refine brP.introD (fun h => ?_) (fun h => ?_)
          | refine ⟨_, _, _, _, _, rfl, rfl, rfl, Fits.mk (by first | exact Nat.le_of_ble_eq_true rfl | (dsimp only; omega)), rfl, ?_⟩
          | refine ⟨_, _, _, _, _, rfl, _, rfl, ?_⟩
          | refine ⟨by decide, ?_⟩
          | refine ⟨_, rfl, ?_⟩
          | fail
        all_goals (refine RT.of_eq (congrArg (fun b => [Value.bool b]) ?_) (by first | rfl | (rw [dq]; rfl)))
        all_goals (unfold takeN; dsimp only)
        all_goals first
          | rfl
          | (simp [*]; done)
theorem evC_nf (e : Ev) : ∀ v ∈ evC e, NF v := (inferInstance : NFs (evC e)).h
theorem take_eff (e : Ev) (s : List UInt8) (hs : s.length ≤ 1048576) (b nid : Nat) : EffC (C W0) I.line_takeValue [.pointer (some ⟨b, 0, none⟩), .string (bs s)] nid
    ⟨some (.bool (takeV e s).2), [(b, evB e)], [(b, evB (takeV e s).1)], []⟩ :=
  EffC.of [⟨b, true, evB e, evB e, evB (takeV e s).1⟩] (take_call e s hs) ⟨fun _ h => (by cases h), trivial⟩
    ⟨BView.own rfl (by simp) (BTo.nf (evC_nf _)), trivial⟩ (.cons (VTo.ptr (by simp [fwd])) (.cons (VTo.n rfl) .nil))
    ⟨fun _ => ⟨BTo.nf (evC_nf _), by simp⟩, trivial⟩ trivial (VTo.n rfl)
end Go.Proofs.YtioahngbfdfcaaaDoor
