import Derived.Test.YtioahngbfdfcaaaDoorKPt
import Derived.Test.YtioahngbfdfcaaaDoorKWc
import Derived.Laws.RangeAny
set_option linter.unusedVariables false
set_option linter.unusedSimpArgs false
namespace Go.Proofs.YtioahngbfdfcaaaDoor
open Go Go.Den Go.RowKit
variable {W0 : World}
/-! micro.read -/
/-- One rune more: below 0, the digits, the point, how many ahead of it, how many behind. -/
def rdStep (i : Nat) (c : Int) : Bool × List UInt8 × Bool × Nat × Nat → Option (Bool × List UInt8 × Bool × Nat × Nat)
  | (b, ds, pt, wh, fr) =>
    if c = 45 ∧ i = 0 then some (true, ds, pt, wh, fr)
    else if 48 ≤ c ∧ c ≤ 57 then some (b, ds ++ [UInt8.ofNat c.toNat], pt, if pt = true then wh else wh + 1, if pt = true then fr + 1 else fr)
    else if c = 46 ∧ pt = false ∧ 0 < wh then some (b, ds, true, wh, fr) else none
def rdL : List UInt8 → Nat → Bool × List UInt8 × Bool × Nat × Nat → Option (Bool × List UInt8 × Bool × Nat × Nat)
  | [], _, st => some st
  | x :: t, i, st => (rdStep i (x.toNat : Int) st).bind (rdL t (i + 1))
def rdEnd : Option (Bool × List UInt8 × Bool × Nat × Nat) → Bool × List UInt8 × Nat × Bool
  | none => (false, [], 0, false)
  | some (b, ds, pt, wh, fr) => if wh = 0 ∨ pt = true ∧ fr = 0 then (false, [], 0, false) else (b, ds, fr, true)
theorem rdL_run (t : List UInt8) : ∀ (i : Nat) (b : Bool) (ds : List UInt8) (pt : Bool) (wh fr : Nat),
    rdL t i (b, ds, pt, wh, fr) = rdL (t.dropWhile isd) (i + (t.takeWhile isd).length) (b, ds ++ t.takeWhile isd, pt, (if pt = true then wh else wh + (t.takeWhile isd).length), (if pt = true then fr + (t.takeWhile isd).length else fr)) := by
  induction t with
  | nil => intro i b ds pt wh fr; cases pt <;> simp [rdL]
  | cons x t ih =>
    intro i b ds pt wh fr
    by_cases hx : isd x = true
    · have g := isd_yes hx
      rw [List.takeWhile_cons, List.dropWhile_cons, if_pos hx, if_pos hx]
      show (rdStep i (x.toNat : Int) (b, ds, pt, wh, fr)).bind (rdL t (i + 1)) = _
      unfold rdStep
      simp only []
      rw [if_neg (by omega), if_pos (by omega)]
      simp only [Option.bind_some]
      rw [ih, List.length_cons, show i + 1 + (t.takeWhile isd).length = i + ((t.takeWhile isd).length + 1) by omega, show UInt8.ofNat (x.toNat : Int).toNat = x by rw [Int.toNat_natCast]; exact UInt8.ofNat_toNat]
      congr 1
      cases pt <;> simp <;> omega
    · rw [List.takeWhile_cons, List.dropWhile_cons, if_neg hx, if_neg hx]
      cases pt <;> simp
theorem rdL_bad (c : UInt8) (r : List UInt8) (i : Nat) (b : Bool) (ds : List UInt8) (pt : Bool) (wh fr : Nat) (h1 : isd c = false) (h2 : ¬ (c = 45 ∧ i = 0)) (h3 : ¬ (c = 46 ∧ pt = false ∧ 0 < wh)) : rdL (c :: r) i (b, ds, pt, wh, fr) = none := by
  have g := isd_no h1
  show (rdStep i (c.toNat : Int) (b, ds, pt, wh, fr)).bind (rdL r (i + 1)) = _
  unfold rdStep
  simp only []
  rw [if_neg (fun h => h2 ⟨UInt8.toNat_inj.1 (by rw [show (45 : UInt8).toNat = 45 from rfl]; omega), h.2⟩), if_neg (by omega), if_neg (fun h => h3 ⟨UInt8.toNat_inj.1 (by rw [show (46 : UInt8).toNat = 46 from rfl]; omega), h.2⟩)]
  rfl
theorem rdL_point (r : List UInt8) (i : Nat) (b : Bool) (ds : List UInt8) (wh fr : Nat) (h : 0 < wh) : rdL (46 :: r) i (b, ds, false, wh, fr) = rdL r (i + 1) (b, ds, true, wh, fr) := by
  show (rdStep i (((46 : UInt8).toNat : Nat) : Int) (b, ds, false, wh, fr)).bind (rdL r (i + 1)) = _
  unfold rdStep
  simp only []
  rw [show (((46 : UInt8).toNat : Nat) : Int) = 46 from rfl, if_neg (fun h => absurd h.1 (by decide)), if_neg (by decide), if_pos ⟨rfl, trivial, h⟩]
  rfl
def readR (b : Bool) : Option (List UInt8 × List UInt8) → Bool × List UInt8 × Nat × Bool
  | none => (false, [], 0, false)
  | some p => (b, p.1 ++ p.2, p.2.length, true)
theorem rd_tail (t : List UInt8) (i : Nat) (b : Bool) (hi : 0 < i ∨ ∀ c r, t = c :: r → c ≠ 45) : rdEnd (rdL t i (b, [], false, 0, 0)) = readR b (decT t) := by
  rw [rdL_run]
  unfold decT
  have td := take_drop t
  generalize hW : t.takeWhile isd = W at *
  cases hR : t.dropWhile isd with
  | nil =>
    simp only [rdL, Bool.false_eq_true, if_false, List.nil_append, Nat.zero_add]
    by_cases w0 : W = []
    · rw [if_pos w0]; subst w0; simp [rdEnd, readR]
    · have : W.length ≠ 0 := fun h => w0 (List.length_eq_zero_iff.1 h)
      rw [if_neg w0]
      unfold rdEnd readR
      simp only []
      rw [if_neg (by simp; omega), List.append_nil]
      rfl
  | cons c r =>
    have hc := drop_head hR
    rw [hR] at td
    simp only [Bool.false_eq_true, if_false, List.nil_append, Nat.zero_add]
    by_cases w0 : W = []
    · rw [if_pos w0, rdL_bad c r _ _ _ _ _ _ hc ?_ ?_]
      · rfl
      · intro h
        rcases hi with hi | hi
        · omega
        · subst w0; exact hi c r td.symm h.1
      · subst w0; intro h; exact absurd h.2.2 (by decide)
    · have wl : W.length ≠ 0 := fun h => w0 (List.length_eq_zero_iff.1 h)
      rw [if_neg w0]
      by_cases c46 : c = 46
      · subst c46
        rw [if_pos rfl, rdL_point _ _ _ _ _ _ (by omega), rdL_run]
        generalize hF : r.takeWhile isd = F at *
        simp only [if_true, Nat.zero_add]
        cases hR2 : r.dropWhile isd with
        | nil =>
          simp only [rdL, if_true]
          unfold rdEnd
          simp only []
          by_cases f0 : F = []
          · subst f0; rw [if_pos rfl, if_pos (by simp)]; rfl
          · have fl : F.length ≠ 0 := fun h => f0 (List.length_eq_zero_iff.1 h)
            rw [if_neg f0, if_neg (by omega)]
            rfl
        | cons c' r' =>
          have hc' := drop_head hR2
          rw [rdL_bad c' r' _ _ _ _ _ _ hc' (fun h => by omega) (fun h => by cases h.2.1)]
          by_cases f0 : F = []
          · rw [if_pos f0]; rfl
          · rw [if_neg f0, if_neg (by simp)]; rfl
      · rw [if_neg c46, rdL_bad c r _ _ _ _ _ _ hc (fun h => by omega) (fun h => c46 h.1)]
        rfl
theorem rd_is (l : List UInt8) : rdEnd (rdL l 0 (false, [], false, 0, 0)) = readR (cutm l).2 (decT (cutm l).1) := by
  cases l with
  | nil => exact rd_tail [] 0 false (Or.inr (fun c r h => by cases h))
  | cons c t =>
    rw [cutm_cons]
    by_cases c45 : c = 45
    · subst c45
      rw [if_pos rfl]
      rw [← rd_tail t 1 true (Or.inl (by decide))]
      rfl
    · rw [if_neg c45]
      exact rd_tail (c :: t) 0 false (Or.inr (fun c' r h => by injection h with h1 h2; subst h1; exact c45))
/-- A row of bytes that grows: nil, or a block. -/
def bsV (k : Nat) : List UInt8 → Value
  | [] => .slice none 0 0
  | x :: r => .slice (some ⟨k, 0, none⟩) (r.length + 1) (r.length + 1)
def bbV : List UInt8 → ABlk
  | [] => .dead
  | x :: r => .cells (byteV (x :: r)) 1 true true Y.uint8
instance {k : Nat} : NFv (bsV k []) := ⟨(AF.sliceN 0 0).nf⟩
theorem bsV_snoc (k : Nat) (o : List UInt8) (x : UInt8) : bsV k (o ++ [x]) = .slice (some ⟨k, 0, none⟩) (o.length + 1) (o.length + 1) := by cases o <;> simp [bsV]
theorem bbV_snoc (o : List UInt8) (x : UInt8) : bbV (o ++ [x]) = .cells (byteV (o ++ [x])) 1 true true Y.uint8 := by cases o <;> rfl
theorem dec_lo {l : List UInt8} {pos : Nat} (h : pos < l.length) (ha : (l[pos]'h).toNat < 128) : Utf8.decode (bs l) pos = ((l[pos]'h).toNat, 1) :=
  decode_ascii (bs l) pos (by rw [bs_size]; exact h) ha
theorem dec_hi {l : List UInt8} {pos : Nat} (h : pos < l.length) (ha : 128 ≤ (l[pos]'h).toNat) : 128 ≤ (Utf8.decode (bs l) pos).1 :=
  (decode_high (bs l) pos (by rw [bs_size]; exact h) ha).1
theorem rdL_at {l : List UInt8} {pos : Nat} (h : pos < l.length) (st) : rdL (l.drop pos) pos st = (rdStep pos ((l[pos]'h).toNat : Int) st).bind (rdL (l.drop (pos + 1)) (pos + 1)) := by
  rw [List.drop_eq_getElem_cons h]; rfl
theorem rdL_end {l : List UInt8} {pos : Nat} (h : ¬ pos < l.length) (st) : rdL (l.drop pos) pos st = some st := by
  rw [List.drop_of_length_le (by omega)]; rfl
abbrev dec0 : ABlk := .cells [.bool false, .string ⟨#[]⟩, .int .i64 0] 1 true false Y.micro_decimal
theorem bytes_snoc {o : List UInt8} {n : Nat} {y : Int} {x : UInt8} (hn : n = o.length) (e : y = (x.toNat : Int)) : List.take (n * 1) (List.drop 0 (byteV o)) ++ [Value.int .u8 y] = byteV (o ++ [x]) := by
  subst hn; subst e
  rw [Nat.mul_one, List.drop_zero, List.take_of_length_le (by rw [byteV_length]; omega)]; simp [byteV]
theorem rd_dig {c : Int} (h1 : 48 ≤ c) (h2 : c ≤ 57) : IntKind.u8.wrap c = ((UInt8.ofNat c.toNat).toNat : Int) := by
  rw [show IntKind.u8.wrap c = c % 256 by simp [IntKind.wrap, IntKind.bits, IntKind.signed], UInt8.toNat_ofNat']; omega
set_option maxHeartbeats 4000000 in
theorem micro_read (l : List UInt8) (hl : l.length ≤ 1048576) (R : Bool × List UInt8 × Nat × Bool) (hR : rdEnd (rdL l 0 (false, [], false, 0, 0)) = R) :
    PureF (C W0) I.micro_read [.string (bs l)] (.tuple #[.agg #[.bool R.1, .string (bs R.2.1), .int .i64 R.2.2.1], .bool R.2.2.2]) := by
  have hsz := bs_size l
  refine PureF.E (CallP.of_body (C_ok W0) B.micro_read rfl rfl rfl ?_)
  repeat' first
    | (apply Here.norm; (first | dsimp only [Env.putR, argEnv, pure1, newPtr, applyE, hset, List.length_cons, List.length_nil, List.length_append, List.set, List.cons_append, List.nil_append] | rfl); (first | dsimp only [Env.putR, argEnv, pure1, newPtr, applyE, hset, List.length_cons, List.length_nil, List.length_append, List.set, List.cons_append, List.nil_append] | rfl))
    | fail
  refine loop_I (C_ok W0) (fun p : Nat × Bool × List UInt8 × Bool × Nat × Nat => p.1 ≤ l.length ∧ p.2.2.1.length ≤ p.1 ∧ p.2.2.2.2.1 ≤ p.1 ∧ p.2.2.2.2.2 ≤ p.1 ∧ rdEnd (rdL (l.drop p.1) p.1 (p.2.1, p.2.2.1, p.2.2.2.1, p.2.2.2.2.1, p.2.2.2.2.2)) = R)
    (fun p => [(2, .pointer (some ⟨0, 0, none⟩)), (3, .bool false), (4, .pointer (some ⟨1, 0, none⟩)), (5, bsV 3 p.2.2.1), (6, .bool p.2.2.2.1), (7, .int .i64 p.2.2.2.2.1), (11, .pointer (some ⟨2, 0, none⟩))])
    (fun p => [dec0, .cells [.bool p.2.1, .string ⟨#[]⟩, .int .i64 p.2.2.2.2.2] 1 true false Y.micro_decimal, .iter (bs l) p.1, bbV p.2.2.1]) (fun p => l.length - p.1) (0, false, [], false, 0, 0)
    ⟨Nat.zero_le _, Nat.le_refl _, Nat.le_refl _, Nat.le_refl _, hR⟩ ⟨_, rfl, RT.trans (.of_eq rfl rfl) .pad⟩ ?_
  rintro ⟨pos, b, ds, pt, wh, fr⟩ ⟨g1, g2, g3, g4, g5⟩
  dsimp only at g1 g2 g3 g4 g5 ⊢
  by_cases hp : pos < l.length
  · rw [rdL_at hp] at g5
    have hw : ∀ c : Nat × Nat, c.2 = 1 → pos + c.2 = pos + 1 := fun c h => by rw [h]
    by_cases ha : (l[pos]'hp).toNat < 128
    · have hd := dec_lo hp ha
      have hc : ((Utf8.decode (bs l) pos).1 : Int) = ((l[pos]'hp).toNat : Int) := by rw [hd]
      have hn : pos + (Utf8.decode (bs l) pos).2 = pos + 1 := by rw [hd]
      clear hd
      generalize (l[pos]'hp).toNat = c at *
      by_cases k1 : (c : Int) = 45 ∧ pos = 0
      · have st : rdStep pos (c : Int) (b, ds, pt, wh, fr) = some (true, ds, pt, wh, fr) := by unfold rdStep; simp only []; rw [if_pos k1]
        rw [st] at g5
        obtain ⟨k2, k3⟩ := k1
        repeat' first
          | refine brP.tD (by omega) ?_
          | refine ⟨_, _, rfl, fun _ => ?_, fun hq => absurd (show pos < (bs l).size by omega) hq⟩
          | (apply Here.norm; (first | dsimp only [Env.putR, argEnv, pure1, newPtr, applyE, hset, List.length_cons, List.length_nil, List.length_append, List.set, List.cons_append, List.nil_append] | rfl); (first | dsimp only [Env.putR, argEnv, pure1, newPtr, applyE, hset, List.length_cons, List.length_nil, List.length_append, List.set, List.cons_append, List.nil_append] | rfl))
          | refine ⟨_, _, _, _, _, rfl, rfl, rfl, Fits.mk (by first | exact Nat.le_of_ble_eq_true rfl | (dsimp only; omega)), rfl, ?_⟩
          | refine ⟨by decide, ?_⟩
          | refine ⟨_, rfl, ?_⟩
          | fail
        apply Again.mk (pos + (Utf8.decode (bs l) pos).2, true, ds, pt, wh, fr)
        · dsimp only; rw [hn]; exact ⟨by omega, by omega, by omega, by omega, g5⟩
        · dsimp only; rw [hn]; omega
        exact ⟨_, rfl, RT.of_eq rfl rfl⟩
      · by_cases k2 : 48 ≤ (c : Int) ∧ (c : Int) ≤ 57
        · have st : rdStep pos (c : Int) (b, ds, pt, wh, fr) = some (b, ds ++ [UInt8.ofNat (c : Int).toNat], pt, if pt = true then wh else wh + 1, if pt = true then fr + 1 else fr) := by unfold rdStep; simp only []; rw [if_neg k1, if_pos k2]
          rw [st] at g5
          obtain ⟨k3, k4⟩ := k2
          have cw : IntKind.u8.wrap ((Utf8.decode (bs l) pos).1 : Int) = ((UInt8.ofNat (c : Int).toNat).toNat : Int) := by rw [hc]; exact rd_dig k3 k4
          cases pt with
          | true =>
            simp only [if_true] at g5
            cases ds with
            | nil =>
              repeat' first
                | refine brP.tD (by omega) ?_
                | refine brP.fD (by omega) ?_
                | refine ⟨_, _, rfl, fun _ => ?_, fun hq => absurd (show pos < (bs l).size by omega) hq⟩
                | (apply Here.norm; (first | dsimp only [Env.putR, argEnv, pure1, newPtr, applyE, hset, List.length_cons, List.length_nil, List.length_append, List.set, List.cons_append, List.nil_append] | rfl); (first | dsimp only [Env.putR, argEnv, pure1, newPtr, applyE, hset, List.length_cons, List.length_nil, List.length_append, List.set, List.cons_append, List.nil_append] | rfl))
                | refine ⟨_, _, _, _, _, rfl, rfl, rfl, Fits.mk (by first | exact Nat.le_of_ble_eq_true rfl | (dsimp only; omega)), rfl, ?_⟩
                | refine ⟨_, _, _, _, _, rfl, _, rfl, ?_⟩
                | refine ⟨trivial, ?_⟩
                | refine ⟨by decide, rfl, by decide, ?_⟩
                | refine .inr ⟨by decide, _, _, _, _, _, rfl, rfl, Fits.mk (by first | exact Nat.le_of_ble_eq_true rfl | omega), ?_⟩
                | refine .inr ⟨by decide, by decide, Room.mk (by decide) (by decide), ?_⟩
                | refine ⟨by decide, ?_⟩
                | refine ⟨_, rfl, ?_⟩
                | fail
              apply Again.mk (pos + (Utf8.decode (bs l) pos).2, b, [] ++ [UInt8.ofNat (c : Int).toNat], true, wh, fr + 1)
              · dsimp only; rw [hn]; exact ⟨by omega, by simp only [List.length_append, List.length_cons, List.length_nil]; omega, by omega, by omega, g5⟩
              · dsimp only; rw [hn]; omega
              refine ⟨_, rfl, ?_⟩
              dsimp only [List.map]
              rw [bsV_snoc, bbV_snoc]
              refine RT.ren [0, 1, 2, 5] rfl rfl ?_ ?_
              all_goals (repeat' first
                | exact trivial
                | exact LTo.nil
                | refine ⟨⟨_, rfl, ?_, (fun z => by cases z)⟩, ?_⟩
                | refine BTo.cells (fun z => z) ?_
                | exact VTo.ptr (by decide)
                | exact VTo.slice (by decide)
                | refine LTo.cons ?_ ?_
                | refine VTo.int ?_
                | refine VTo.bool ?_
                | refine VTo.string ?_
                | (with_reducible rfl)
                | fail)
              all_goals first
                | exact ⟨rfl, rfl⟩
                | exact cw
                | (rw [wrap_in (by omega)]; omega)
                | exact bytes_snoc rfl cw
            | cons x r =>
              have hol : (byteV (x :: r)).length = r.length + 1 := by rw [byteV_length]; rfl
              have g2' : r.length + 1 ≤ pos := g2
              repeat' first
                | refine brP.tD (by omega) ?_
                | refine brP.fD (by omega) ?_
                | refine ⟨_, _, rfl, fun _ => ?_, fun hq => absurd (show pos < (bs l).size by omega) hq⟩
                | (apply Here.norm; (first | dsimp only [Env.putR, argEnv, pure1, newPtr, applyE, hset, List.length_cons, List.length_nil, List.length_append, List.set, List.cons_append, List.nil_append] | rfl); (first | dsimp only [Env.putR, argEnv, pure1, newPtr, applyE, hset, List.length_cons, List.length_nil, List.length_append, List.set, List.cons_append, List.nil_append] | rfl))
                | refine ⟨_, _, _, _, _, rfl, rfl, rfl, Fits.mk (by first | exact Nat.le_of_ble_eq_true rfl | (dsimp only; omega)), rfl, ?_⟩
                | refine ⟨_, _, _, _, _, rfl, _, rfl, ?_⟩
                | refine ⟨trivial, ?_⟩
                | refine ⟨by decide, rfl, by decide, ?_⟩
                | refine .inr ⟨by decide, _, _, _, _, _, rfl, rfl, Fits.mk (by first | exact Nat.le_of_ble_eq_true rfl | omega), ?_⟩
                | refine .inr ⟨by decide, _, _, _, _, _, rfl, rfl, Room.mk (by omega) (by omega), .inr (.inr ⟨(by omega), rfl, rfl, rfl, (by first | omega | (simp; done) | (simp; omega)), (by omega), rfl, ?_⟩)⟩
                | refine ⟨by decide, ?_⟩
                | refine ⟨_, rfl, ?_⟩
                | fail
              apply Again.mk (pos + (Utf8.decode (bs l) pos).2, b, (x :: r) ++ [UInt8.ofNat (c : Int).toNat], true, wh, fr + 1)
              · dsimp only; rw [hn]; exact ⟨by omega, by simp only [List.length_append, List.length_cons, List.length_nil]; omega, by omega, by omega, g5⟩
              · dsimp only; rw [hn]; omega
              refine ⟨_, rfl, ?_⟩
              dsimp only [List.map]
              rw [bsV_snoc, bbV_snoc]
              refine RT.ren [0, 1, 2, 5] rfl rfl ?_ ?_
              all_goals (repeat' first
                | exact trivial
                | exact LTo.nil
                | refine ⟨⟨_, rfl, ?_, (fun z => by cases z)⟩, ?_⟩
                | refine BTo.cells (fun z => z) ?_
                | exact VTo.ptr (by decide)
                | exact VTo.slice (by decide)
                | refine LTo.cons ?_ ?_
                | refine VTo.int ?_
                | refine VTo.bool ?_
                | refine VTo.string ?_
                | (with_reducible rfl)
                | refine LTo.n ?_
                | fail)
              all_goals first
                | exact ⟨rfl, rfl⟩
                | exact cw
                | (rw [wrap_in (by omega)]; omega)
                | exact bytes_snoc rfl cw
          | false =>
            simp only [Bool.false_eq_true, if_false] at g5
            cases ds with
            | nil =>
              repeat' first
                | refine brP.tD (by omega) ?_
                | refine brP.fD (by omega) ?_
                | refine ⟨_, _, rfl, fun _ => ?_, fun hq => absurd (show pos < (bs l).size by omega) hq⟩
                | (apply Here.norm; (first | dsimp only [Env.putR, argEnv, pure1, newPtr, applyE, hset, List.length_cons, List.length_nil, List.length_append, List.set, List.cons_append, List.nil_append] | rfl); (first | dsimp only [Env.putR, argEnv, pure1, newPtr, applyE, hset, List.length_cons, List.length_nil, List.length_append, List.set, List.cons_append, List.nil_append] | rfl))
                | refine ⟨trivial, ?_⟩
                | refine ⟨by decide, rfl, by decide, ?_⟩
                | refine .inr ⟨by decide, _, _, _, _, _, rfl, rfl, Fits.mk (by first | exact Nat.le_of_ble_eq_true rfl | omega), ?_⟩
                | refine .inr ⟨by decide, by decide, Room.mk (by decide) (by decide), ?_⟩
                | refine ⟨_, rfl, ?_⟩
                | fail
              apply Again.mk (pos + (Utf8.decode (bs l) pos).2, b, [] ++ [UInt8.ofNat (c : Int).toNat], false, wh + 1, fr)
              · dsimp only; rw [hn]; exact ⟨by omega, by simp only [List.length_append, List.length_cons, List.length_nil]; omega, by omega, by omega, g5⟩
              · dsimp only; rw [hn]; omega
              refine ⟨_, rfl, ?_⟩
              dsimp only [List.map]
              rw [bsV_snoc, bbV_snoc]
              refine RT.ren [0, 1, 2, 5] rfl rfl ?_ ?_
              all_goals (repeat' first
                | exact trivial
                | exact LTo.nil
                | refine ⟨⟨_, rfl, ?_, (fun z => by cases z)⟩, ?_⟩
                | refine BTo.cells (fun z => z) ?_
                | exact VTo.ptr (by decide)
                | exact VTo.slice (by decide)
                | refine LTo.cons ?_ ?_
                | refine VTo.int ?_
                | refine VTo.bool ?_
                | refine VTo.string ?_
                | (with_reducible rfl)
                | fail)
              all_goals first
                | exact ⟨rfl, rfl⟩
                | exact cw
                | (rw [wrap_in (by omega)]; omega)
                | exact bytes_snoc rfl cw
            | cons x r =>
              have hol : (byteV (x :: r)).length = r.length + 1 := by rw [byteV_length]; rfl
              have g2' : r.length + 1 ≤ pos := g2
              repeat' first
                | refine brP.tD (by omega) ?_
                | refine brP.fD (by omega) ?_
                | refine ⟨_, _, rfl, fun _ => ?_, fun hq => absurd (show pos < (bs l).size by omega) hq⟩
                | (apply Here.norm; (first | dsimp only [Env.putR, argEnv, pure1, newPtr, applyE, hset, List.length_cons, List.length_nil, List.length_append, List.set, List.cons_append, List.nil_append] | rfl); (first | dsimp only [Env.putR, argEnv, pure1, newPtr, applyE, hset, List.length_cons, List.length_nil, List.length_append, List.set, List.cons_append, List.nil_append] | rfl))
                | refine ⟨trivial, ?_⟩
                | refine ⟨by decide, rfl, by decide, ?_⟩
                | refine .inr ⟨by decide, _, _, _, _, _, rfl, rfl, Fits.mk (by first | exact Nat.le_of_ble_eq_true rfl | omega), ?_⟩
                | refine .inr ⟨by decide, _, _, _, _, _, rfl, rfl, Room.mk (by omega) (by omega), .inr (.inr ⟨(by omega), rfl, rfl, rfl, (by first | omega | (simp; done) | (simp; omega)), (by omega), rfl, ?_⟩)⟩
                | refine ⟨_, rfl, ?_⟩
                | fail
              apply Again.mk (pos + (Utf8.decode (bs l) pos).2, b, (x :: r) ++ [UInt8.ofNat (c : Int).toNat], false, wh + 1, fr)
              · dsimp only; rw [hn]; exact ⟨by omega, by simp only [List.length_append, List.length_cons, List.length_nil]; omega, by omega, by omega, g5⟩
              · dsimp only; rw [hn]; omega
              refine ⟨_, rfl, ?_⟩
              dsimp only [List.map]
              rw [bsV_snoc, bbV_snoc]
              refine RT.ren [0, 1, 2, 5] rfl rfl ?_ ?_
              all_goals (repeat' first
                | exact trivial
                | exact LTo.nil
                | refine ⟨⟨_, rfl, ?_, (fun z => by cases z)⟩, ?_⟩
                | refine BTo.cells (fun z => z) ?_
                | exact VTo.ptr (by decide)
                | exact VTo.slice (by decide)
                | refine LTo.cons ?_ ?_
                | refine VTo.int ?_
                | refine VTo.bool ?_
                | refine VTo.string ?_
                | (with_reducible rfl)
                | refine LTo.n ?_
                | fail)
              all_goals first
                | exact ⟨rfl, rfl⟩
                | exact cw
                | (rw [wrap_in (by omega)]; omega)
                | exact bytes_snoc rfl cw
        · by_cases k5 : (c : Int) = 46 ∧ pt = false ∧ 0 < wh
          · have st : rdStep pos (c : Int) (b, ds, pt, wh, fr) = some (b, ds, true, wh, fr) := by unfold rdStep; simp only []; rw [if_neg k1, if_neg k2, if_pos k5]
            rw [st] at g5
            obtain ⟨k3, rfl, k4⟩ := k5
            repeat' first
              | refine brP.tD (by omega) ?_
              | refine brP.fD (by omega) ?_
              | refine ⟨_, _, rfl, fun _ => ?_, fun hq => absurd (show pos < (bs l).size by omega) hq⟩
              | (apply Here.norm; (first | dsimp only [Env.putR, argEnv, pure1, newPtr, applyE, hset, List.length_cons, List.length_nil, List.length_append, List.set, List.cons_append, List.nil_append] | rfl); (first | dsimp only [Env.putR, argEnv, pure1, newPtr, applyE, hset, List.length_cons, List.length_nil, List.length_append, List.set, List.cons_append, List.nil_append] | rfl))
              | refine ⟨_, rfl, ?_⟩
              | fail
            apply Again.mk (pos + (Utf8.decode (bs l) pos).2, b, ds, true, wh, fr)
            · dsimp only; rw [hn]; exact ⟨by omega, by omega, by omega, by omega, g5⟩
            · dsimp only; rw [hn]; omega
            exact ⟨_, rfl, RT.of_eq rfl rfl⟩
          · have st : rdStep pos (c : Int) (b, ds, pt, wh, fr) = none := by unfold rdStep; simp only []; rw [if_neg k1, if_neg k2, if_neg k5]
            rw [st] at g5
            have g6 : (false, [], 0, false) = R := g5
            subst g6
            cases pt with
            | true =>
              repeat' first
                | refine brP.fD (by omega) ?_
                | refine ⟨_, _, rfl, fun _ => ?_, fun hq => absurd (show pos < (bs l).size by omega) hq⟩
                | (apply Here.norm; (first | dsimp only [Env.putR, argEnv, pure1, newPtr, applyE, hset, List.length_cons, List.length_nil, List.length_append, List.set, List.cons_append, List.nil_append] | rfl); (first | dsimp only [Env.putR, argEnv, pure1, newPtr, applyE, hset, List.length_cons, List.length_nil, List.length_append, List.set, List.cons_append, List.nil_append] | rfl))
                | refine brP.introD (fun h => ?_) (fun h => ?_)
                | refine ⟨_, _, _, _, _, rfl, rfl, rfl, Fits.mk (by first | exact Nat.le_of_ble_eq_true rfl | (dsimp only; omega)), rfl, ?_⟩
                | refine ⟨_, _, _, _, _, rfl, Fits.mk (by first | exact Nat.le_of_ble_eq_true rfl | (dsimp only; omega)), _, rfl, ?_⟩
                | refine ⟨_, rfl, ?_⟩
                | fail
              all_goals rfl
            | false =>
              simp only [true_and] at k5
              repeat' first
                | refine brP.fD (by omega) ?_
                | refine ⟨_, _, rfl, fun _ => ?_, fun hq => absurd (show pos < (bs l).size by omega) hq⟩
                | (apply Here.norm; (first | dsimp only [Env.putR, argEnv, pure1, newPtr, applyE, hset, List.length_cons, List.length_nil, List.length_append, List.set, List.cons_append, List.nil_append] | rfl); (first | dsimp only [Env.putR, argEnv, pure1, newPtr, applyE, hset, List.length_cons, List.length_nil, List.length_append, List.set, List.cons_append, List.nil_append] | rfl))
                | refine brP.introD (fun h => ?_) (fun h => ?_)
                | refine ⟨_, _, _, _, _, rfl, rfl, rfl, Fits.mk (by first | exact Nat.le_of_ble_eq_true rfl | (dsimp only; omega)), rfl, ?_⟩
                | refine ⟨_, _, _, _, _, rfl, Fits.mk (by first | exact Nat.le_of_ble_eq_true rfl | (dsimp only; omega)), _, rfl, ?_⟩
                | refine ⟨_, rfl, ?_⟩
                | fail
              all_goals rfl
    · have hd := dec_hi hp (by omega)
      have st : rdStep pos ((l[pos]'hp).toNat : Int) (b, ds, pt, wh, fr) = none := by unfold rdStep; simp only []; rw [if_neg (by omega), if_neg (by omega), if_neg (by omega)]
      rw [st] at g5
      have g6 : (false, [], 0, false) = R := g5
      subst g6
      repeat' first
        | refine brP.tD (by omega) ?_
        | refine brP.fD (by omega) ?_
        | refine ⟨_, _, rfl, fun _ => ?_, fun hq => absurd (show pos < (bs l).size by omega) hq⟩
        | (apply Here.norm; (first | dsimp only [Env.putR, argEnv, pure1, newPtr, applyE, hset, List.length_cons, List.length_nil, List.length_append, List.set, List.cons_append, List.nil_append] | rfl); (first | dsimp only [Env.putR, argEnv, pure1, newPtr, applyE, hset, List.length_cons, List.length_nil, List.length_append, List.set, List.cons_append, List.nil_append] | rfl))
        | refine ⟨_, _, _, _, _, rfl, rfl, rfl, Fits.mk (by first | exact Nat.le_of_ble_eq_true rfl | (dsimp only; omega)), rfl, ?_⟩
        | refine ⟨_, _, _, _, _, rfl, Fits.mk (by first | exact Nat.le_of_ble_eq_true rfl | (dsimp only; omega)), _, rfl, ?_⟩
        | refine ⟨_, rfl, ?_⟩
        | fail
      all_goals rfl
  · rw [rdL_end hp] at g5
    have hpl : pos = l.length := by omega
    by_cases z : wh = 0 ∨ pt = true ∧ fr = 0
    · have g6 : (false, [], 0, false) = R := by rw [← g5]; unfold rdEnd; simp only []; rw [if_pos z]
      subst g6
      cases pt with
      | true =>
        repeat' first
          | refine brP.tD (by omega) ?_
          | refine ⟨_, _, rfl, fun hq => absurd hq (by omega), fun _ => ?_⟩
          | (apply Here.norm; (first | dsimp only [Env.putR, argEnv, pure1, newPtr, applyE, hset, List.length_cons, List.length_nil, List.length_append, List.set, List.cons_append, List.nil_append] | rfl); (first | dsimp only [Env.putR, argEnv, pure1, newPtr, applyE, hset, List.length_cons, List.length_nil, List.length_append, List.set, List.cons_append, List.nil_append] | rfl))
          | refine brP.introD (fun h => ?_) (fun h => ?_)
          | refine ⟨_, _, _, _, _, rfl, rfl, rfl, Fits.mk (by first | exact Nat.le_of_ble_eq_true rfl | (dsimp only; omega)), rfl, ?_⟩
          | refine ⟨_, _, _, _, _, rfl, _, rfl, ?_⟩
          | refine ⟨_, _, _, _, _, rfl, Fits.mk (by first | exact Nat.le_of_ble_eq_true rfl | (dsimp only; omega)), _, rfl, ?_⟩
          | refine ⟨by decide, ?_⟩
          | refine ⟨_, rfl, ?_⟩
          | fail
        all_goals rfl
      | false =>
        simp only [Bool.false_eq_true, false_and, or_false] at z
        repeat' first
          | refine brP.tD (by omega) ?_
          | refine ⟨_, _, rfl, fun hq => absurd hq (by omega), fun _ => ?_⟩
          | (apply Here.norm; (first | dsimp only [Env.putR, argEnv, pure1, newPtr, applyE, hset, List.length_cons, List.length_nil, List.length_append, List.set, List.cons_append, List.nil_append] | rfl); (first | dsimp only [Env.putR, argEnv, pure1, newPtr, applyE, hset, List.length_cons, List.length_nil, List.length_append, List.set, List.cons_append, List.nil_append] | rfl))
          | refine ⟨_, _, _, _, _, rfl, rfl, rfl, Fits.mk (by first | exact Nat.le_of_ble_eq_true rfl | (dsimp only; omega)), rfl, ?_⟩
          | refine ⟨_, _, _, _, _, rfl, Fits.mk (by first | exact Nat.le_of_ble_eq_true rfl | (dsimp only; omega)), _, rfl, ?_⟩
          | refine ⟨_, rfl, ?_⟩
          | fail
        all_goals rfl
    · have g6 : (b, ds, fr, true) = R := by rw [← g5]; unfold rdEnd; simp only []; rw [if_neg z]
      subst g6
      cases pt with
      | true =>
        simp only [true_and] at z
        cases ds with
        | nil =>
          repeat' first
            | refine brP.fD (by omega) ?_
            | refine ⟨_, _, rfl, fun hq => absurd hq (by omega), fun _ => ?_⟩
            | refine .inl ⟨rfl, ?_⟩
            | (apply Here.norm; (first | dsimp only [Env.putR, argEnv, pure1, newPtr, applyE, hset, List.length_cons, List.length_nil, List.length_append, List.set, List.cons_append, List.nil_append] | rfl); (first | dsimp only [Env.putR, argEnv, pure1, newPtr, applyE, hset, List.length_cons, List.length_nil, List.length_append, List.set, List.cons_append, List.nil_append] | rfl))
            | refine ⟨_, _, _, _, _, rfl, rfl, rfl, Fits.mk (by first | exact Nat.le_of_ble_eq_true rfl | (dsimp only; omega)), rfl, ?_⟩
            | refine ⟨_, _, _, _, _, rfl, _, rfl, ?_⟩
            | refine ⟨_, _, _, _, _, rfl, Fits.mk (by first | exact Nat.le_of_ble_eq_true rfl | (dsimp only; omega)), _, rfl, ?_⟩
            | refine ⟨by decide, ?_⟩
            | refine ⟨_, rfl, ?_⟩
            | fail
          all_goals rfl
        | cons x r =>
          have e1 : List.take (r.length + 1) (List.drop 0 (byteV (x :: r))) = byteV (x :: r) := by rw [List.drop_zero, List.take_of_length_le (by rw [byteV_length]; exact Nat.le_refl _)]
          have e2 : 0 + (r.length + 1) ≤ (byteV (x :: r)).length := by rw [byteV_length, Nat.zero_add]; exact Nat.le_refl _
          repeat' first
            | refine brP.fD (by omega) ?_
            | refine ⟨_, _, rfl, fun hq => absurd hq (by omega), fun _ => ?_⟩
            | refine .inr ⟨rfl, Nat.succ_pos _, _, _, _, _, _, rfl, rfl, e2, _, e1, ?_⟩
            | (apply Here.norm; (first | dsimp only [Env.putR, argEnv, pure1, newPtr, applyE, hset, List.length_cons, List.length_nil, List.length_append, List.set, List.cons_append, List.nil_append] | rfl); (first | dsimp only [Env.putR, argEnv, pure1, newPtr, applyE, hset, List.length_cons, List.length_nil, List.length_append, List.set, List.cons_append, List.nil_append] | rfl))
            | refine ⟨_, _, _, _, _, rfl, rfl, rfl, Fits.mk (by first | exact Nat.le_of_ble_eq_true rfl | (dsimp only; omega)), rfl, ?_⟩
            | refine ⟨_, _, _, _, _, rfl, _, rfl, ?_⟩
            | refine ⟨_, _, _, _, _, rfl, Fits.mk (by first | exact Nat.le_of_ble_eq_true rfl | (dsimp only; omega)), _, rfl, ?_⟩
            | refine ⟨by decide, ?_⟩
            | refine ⟨_, rfl, ?_⟩
            | fail
          all_goals rfl
      | false =>
        simp only [Bool.false_eq_true, false_and, or_false] at z
        cases ds with
        | nil =>
          repeat' first
            | refine brP.fD (by omega) ?_
            | refine ⟨_, _, rfl, fun hq => absurd hq (by omega), fun _ => ?_⟩
            | refine .inl ⟨rfl, ?_⟩
            | (apply Here.norm; (first | dsimp only [Env.putR, argEnv, pure1, newPtr, applyE, hset, List.length_cons, List.length_nil, List.length_append, List.set, List.cons_append, List.nil_append] | rfl); (first | dsimp only [Env.putR, argEnv, pure1, newPtr, applyE, hset, List.length_cons, List.length_nil, List.length_append, List.set, List.cons_append, List.nil_append] | rfl))
            | refine ⟨_, _, _, _, _, rfl, rfl, rfl, Fits.mk (by first | exact Nat.le_of_ble_eq_true rfl | (dsimp only; omega)), rfl, ?_⟩
            | refine ⟨_, _, _, _, _, rfl, Fits.mk (by first | exact Nat.le_of_ble_eq_true rfl | (dsimp only; omega)), _, rfl, ?_⟩
            | refine ⟨by decide, ?_⟩
            | refine ⟨_, rfl, ?_⟩
            | fail
          all_goals rfl
        | cons x r =>
          have e1 : List.take (r.length + 1) (List.drop 0 (byteV (x :: r))) = byteV (x :: r) := by rw [List.drop_zero, List.take_of_length_le (by rw [byteV_length]; exact Nat.le_refl _)]
          have e2 : 0 + (r.length + 1) ≤ (byteV (x :: r)).length := by rw [byteV_length, Nat.zero_add]; exact Nat.le_refl _
          repeat' first
            | refine brP.fD (by omega) ?_
            | refine ⟨_, _, rfl, fun hq => absurd hq (by omega), fun _ => ?_⟩
            | refine .inr ⟨rfl, Nat.succ_pos _, _, _, _, _, _, rfl, rfl, e2, _, e1, ?_⟩
            | (apply Here.norm; (first | dsimp only [Env.putR, argEnv, pure1, newPtr, applyE, hset, List.length_cons, List.length_nil, List.length_append, List.set, List.cons_append, List.nil_append] | rfl); (first | dsimp only [Env.putR, argEnv, pure1, newPtr, applyE, hset, List.length_cons, List.length_nil, List.length_append, List.set, List.cons_append, List.nil_append] | rfl))
            | refine ⟨_, _, _, _, _, rfl, rfl, rfl, Fits.mk (by first | exact Nat.le_of_ble_eq_true rfl | (dsimp only; omega)), rfl, ?_⟩
            | refine ⟨_, _, _, _, _, rfl, Fits.mk (by first | exact Nat.le_of_ble_eq_true rfl | (dsimp only; omega)), _, rfl, ?_⟩
            | refine ⟨by decide, ?_⟩
            | refine ⟨_, rfl, ?_⟩
            | fail
          all_goals rfl
end Go.Proofs.YtioahngbfdfcaaaDoor
