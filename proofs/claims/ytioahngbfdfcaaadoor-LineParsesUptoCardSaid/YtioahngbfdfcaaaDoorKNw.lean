import Derived.Test.YtioahngbfdfcaaaDoorKNdf
import Derived.Test.YtioahngbfdfcaaaDoorKMr
set_option linter.unusedVariables false
set_option linter.unusedSimpArgs false
namespace Go.Proofs.YtioahngbfdfcaaaDoor
open Go Go.Den Go.RowKit
variable {W0 : World}
/-! name.Clean: the bytes that are gathered -/
/-- What a rune gives. -/
def stepC (last : Bool) (r : Int) : List UInt8 :=
  if blankR r = true then (if last = true then [] else [95]) else if r = 47 then [45] else if r = 46 ∨ (r < 128 ∧ nb r = true) then [UInt8.ofNat r.toNat] else []
/-- All runes from a place on. -/
def gathP (l : List UInt8) : Nat → Nat → Bool → List UInt8 → List UInt8
  | 0, _, _, out => out
  | n + 1, pos, last, out => if pos < l.length then gathP l n (pos + (Utf8.decode (bs l) pos).2) (blankR (Utf8.decode (bs l) pos).1) (out ++ stepC last (Utf8.decode (bs l) pos).1) else out
def gath (l : List UInt8) : List UInt8 := gathP l l.length 0 false []
theorem gathP_end {l : List UInt8} {n pos : Nat} {last : Bool} {out : List UInt8} (h : ¬ pos < l.length) : gathP l n pos last out = out := by
  cases n with
  | zero => rfl
  | succ n => unfold gathP; rw [if_neg h]
theorem gathP_step {l : List UInt8} {n pos : Nat} {last : Bool} {out : List UInt8} (h : pos < l.length) (hn : l.length - pos ≤ n) :
    gathP l n pos last out = gathP l (n - 1) (pos + (Utf8.decode (bs l) pos).2) (blankR (Utf8.decode (bs l) pos).1) (out ++ stepC last (Utf8.decode (bs l) pos).1) := by
  obtain ⟨m, rfl⟩ : ∃ m, n = m + 1 := ⟨n - 1, by omega⟩
  rw [gathP, if_pos h, Nat.add_sub_cancel]
theorem dec_wide {l : List UInt8} {pos : Nat} (h : pos < l.length) : 1 ≤ (Utf8.decode (bs l) pos).2 := by
  by_cases ha : (l[pos]'h).toNat < 128
  · rw [dec_lo h ha]; exact Nat.le_refl 1
  · exact (decode_high (bs l) pos (by rw [bs_size]; exact h) (by show 128 ≤ (l[pos]'h).toNat; omega)).2
theorem dec_fit {l : List UInt8} {pos : Nat} (h : pos < l.length) : pos + (Utf8.decode (bs l) pos).2 ≤ l.length := by
  have hs := bs_size l
  unfold Utf8.decode
  dsimp only
  repeat' split
  all_goals (try simp only [Bool.and_eq_true, decide_eq_true_eq] at *)
  all_goals omega
theorem blank_ne {r : Int} (h : blankR r = true) : r ≠ 65533 ∧ r ≠ 47 ∧ r ≠ 46 ∧ (r < 128 → nb r = false) := by
  unfold blankR at h
  simp only [Bool.or_eq_true, Bool.and_eq_true, decide_eq_true_eq] at h
  refine ⟨by omega, by omega, by omega, fun h2 => ?_⟩
  unfold nb
  simp only [Bool.or_eq_false_iff, decide_eq_false_iff_not]
  omega
theorem stepC_len (last : Bool) (r : Int) : (stepC last r).length ≤ 1 := by
  unfold stepC; split <;> (try split) <;> (try split) <;> simp
theorem gathP_len (l : List UInt8) : ∀ (n pos : Nat) (last : Bool) (out : List UInt8), out.length ≤ pos → pos ≤ l.length → (∀ p, p < l.length → p + (Utf8.decode (bs l) p).2 ≤ l.length) → (gathP l n pos last out).length ≤ l.length
  | 0, pos, last, out, h1, h2, _ => by unfold gathP; omega
  | n + 1, pos, last, out, h1, h2, h3 => by
    unfold gathP
    split
    · rename_i hp
      have := stepC_len last (Utf8.decode (bs l) pos).1
      have := dec_wide hp
      exact gathP_len l n _ _ _ (by rw [List.length_append]; omega) (h3 pos hp) h3
    · omega
/-- The builder: its own place, its bytes. -/
def bldB : List UInt8 → ABlk
  | [] => .cells [.pointer none, .slice none 0 0] 1 true false Y.strings_Builder
  | x :: r => .cells [.pointer (some ⟨0, 0, none⟩), .slice (some ⟨2, 0, none⟩) (r.length + 1) (r.length + 1)] 1 true false Y.strings_Builder
theorem bldB_snoc (o : List UInt8) (x : UInt8) : bldB (o ++ [x]) = .cells [.pointer (some ⟨0, 0, none⟩), .slice (some ⟨2, 0, none⟩) (o.length + 1) (o.length + 1)] 1 true false Y.strings_Builder := by cases o <;> simp [bldB]
theorem utf8_Decode (hW : WF W0) (s : ByteArray) : PureF (C W0) I.unicode_utf8_DecodeRuneInString [.string s] (.tuple #[.int .i32 (Lib.decodeGo s).1, .int .i64 (Lib.decodeGo s).2]) :=
  PureF.of_calls (fun a h => by rcases List.mem_singleton.mp h with rfl; exact .string _) (.tuple (by simp [AF.int])) ⟨_, B.unicode_utf8_DecodeRuneInString, rfl, rfl⟩ fun w hb => Tryd.utf8_DecodeRuneInString s w (hW.keep hb).utf
theorem gath_len (l : List UInt8) : (gath l).length ≤ l.length := gathP_len l _ _ _ _ (Nat.le_refl _) (Nat.zero_le _) fun p h => dec_fit h
theorem take_pcs (a b : List (List UInt8)) : ((pcs (a ++ b)).drop 0).take (a.length * 1) = pcs a := by
  rw [List.drop_zero, Nat.mul_one]
  show (List.map (fun p => Value.string (bs p)) (a ++ b)).take _ = _
  rw [List.map_append, List.take_left' (by simp)]
/-- The name that is made of a text. -/
def cleanL (l : List UInt8) : List UInt8 := joinL [46] (keep List.isEmpty (cutA 46 [] (gath l)))
def cleanV (l : List UInt8) : List UInt8 × Bool := if okName (cleanL l) = true then (cleanL l, true) else ([], false)
theorem cleanL_len (l : List UInt8) : (cleanL l).length ≤ l.length + 1 := by
  have h1 := join_len 46 (keep List.isEmpty (cutA 46 [] (gath l)))
  have h2 := keep_sum List.isEmpty (cutA 46 [] (gath l))
  have h3 := cut_sum 46 (gath l) []
  have h4 := gath_len l
  unfold cleanL
  simp only [List.length_nil] at h3
  omega
theorem name_Clean_1 (l : List UInt8) : PureF (C W0) I.name_Clean_1 [.string (bs l)] (.bool l.isEmpty) := by
  refine PureF.E (CallP.of_body (C_ok W0) B.name_Clean_1 rfl rfl rfl ?_)
  have e : l.isEmpty = decide (bs l = ⟨#[]⟩) := by
    by_cases h : l = []
    · subst h; rfl
    · rw [decide_eq_false (fun z => h (bs_nil_iff.mp z))]; cases l with | nil => exact absurd rfl h | cons => rfl
  rw [e]
  repeat' first
    | (apply Here.norm; (first | dsimp only [Env.putR, argEnv, pure1, newPtr, applyE, hset, List.length_cons, List.length_nil, List.length_append, List.set, List.cons_append, List.nil_append] | rfl); (first | dsimp only [Env.putR, argEnv, pure1, newPtr, applyE, hset, List.length_cons, List.length_nil, List.length_append, List.set, List.cons_append, List.nil_append] | rfl))
    | fail
  rfl
attribute [local irreducible] nb blankR Utf8.decode Lib.decodeGo
set_option maxHeartbeats 4000000 in
set_option maxRecDepth 20000 in
theorem name_Clean (hW : WF W0) (l : List UInt8) (hl : l.length ≤ 1000000) : PureF (C W0) I.name_Clean [.string (bs l)] (.tuple #[.string (bs (cleanV l).1), .bool (cleanV l).2]) := by
  have hsz := bs_size l
  have dg := fun s => utf8_Decode hW s
  have bl := fun r => name_blank (W0 := W0) r
  have nm := fun c => name_namely (W0 := W0) c
  refine PureF.E (CallP.of_body (C_ok W0) B.name_Clean rfl rfl rfl ?_)
  repeat' first
    | (apply Here.norm; (first | dsimp only [Env.putR, argEnv, pure1, newPtr, applyE, hset, List.length_cons, List.length_nil, List.length_append, List.set, List.cons_append, List.nil_append] | rfl); (first | dsimp only [Env.putR, argEnv, pure1, newPtr, applyE, hset, List.length_cons, List.length_nil, List.length_append, List.set, List.cons_append, List.nil_append] | rfl))
    | fail
  refine loop_I (C_ok W0) (fun p : Nat × Nat × Bool × List UInt8 => p.2.1 ≤ l.length ∧ l.length - p.2.1 ≤ p.1 ∧ p.2.2.2.length ≤ p.2.1 ∧ gathP l p.1 p.2.1 p.2.2.1 p.2.2.2 = gath l)
    (fun p => [(0, .string (bs l)), (2, .string ⟨#[]⟩), (3, .bool false), (4, .pointer (some ⟨0, 0, none⟩)), (5, .bool p.2.2.1), (14, .pointer (some ⟨1, 0, none⟩))])
    (fun p => [bldB p.2.2.2, .iter (bs l) p.2.1, bbV p.2.2.2]) (fun p => l.length - p.2.1) (l.length, 0, false, [])
    ⟨Nat.zero_le _, Nat.le_refl _, Nat.le_refl _, rfl⟩ ⟨_, rfl, RT.trans (.of_eq rfl rfl) .pad⟩ ?_
  rintro ⟨n, pos, last, out⟩ ⟨g1, g2, g3, g4⟩
  dsimp only at g1 g2 g3 g4 ⊢
  by_cases hp : pos < l.length
  · have hw := dec_wide hp
    have hfit := dec_fit hp
    have bl := bl ((Utf8.decode (bs l) pos).1 : Int)
    rw [gathP_step hp g2] at g4
    have hr0 : 0 ≤ ((Utf8.decode (bs l) pos).1 : Int) := Int.natCast_nonneg _
    cases hb : blankR ((Utf8.decode (bs l) pos).1 : Int) with
    | true =>
      rw [hb] at bl g4
      obtain ⟨b1, b2, b3, b4⟩ := blank_ne hb
      cases last with
      | true =>
        have st : stepC true ((Utf8.decode (bs l) pos).1 : Int) = [] := by unfold stepC; rw [if_pos hb]; rfl
        rw [st, List.append_nil] at g4
        by_cases c3 : ((Utf8.decode (bs l) pos).1 : Int) < 128
        · have ew : IntKind.u8.wrap ((Utf8.decode (bs l) pos).1 : Int) = ((Utf8.decode (bs l) pos).1 : Int) := by
            rw [show ∀ x, IntKind.u8.wrap x = x % 256 from fun x => by simp [IntKind.wrap, IntKind.bits, IntKind.signed]]; omega
          have nm := nm (IntKind.u8.wrap ((Utf8.decode (bs l) pos).1 : Int))
          rw [show nb (IntKind.u8.wrap ((Utf8.decode (bs l) pos).1 : Int)) = false by rw [ew]; exact b4 c3] at nm
          repeat' first
            | refine brP.tD (by omega) ?_
            | refine brP.fD (by omega) ?_
            | refine brP.tN (by omega) ?_
            | refine ⟨_, _, rfl, fun _ => ?_, fun hq => absurd (show pos < (bs l).size by omega) hq⟩
            | refine (dg _).call ?_
            | refine (bl).call ?_
            | refine (nm).call ?_
            | (apply Here.norm; (first | dsimp only [Env.putR, argEnv, pure1, newPtr, applyE, hset, List.length_cons, List.length_nil, List.length_append, List.set, List.cons_append, List.nil_append] | rfl); (first | dsimp only [Env.putR, argEnv, pure1, newPtr, applyE, hset, List.length_cons, List.length_nil, List.length_append, List.set, List.cons_append, List.nil_append] | rfl))
            | refine ⟨SlB.mk (by first | omega | decide) (by first | omega | decide) (by first | omega | decide), ?_⟩
            | refine ⟨_, rfl, ?_⟩
            | fail
          all_goals (apply Again.mk (n - 1, pos + (Utf8.decode (bs l) pos).2, true, out))
          all_goals first
            | exact ⟨hfit, by dsimp only; omega, by dsimp only; omega, g4⟩
            | (dsimp only; omega)
            | exact ⟨_, rfl, RT.of_eq rfl rfl⟩
        · have nm := nm 0
          repeat' first
            | refine brP.fD (by omega) ?_
            | refine brP.tN (by omega) ?_
            | refine ⟨_, _, rfl, fun _ => ?_, fun hq => absurd (show pos < (bs l).size by omega) hq⟩
            | refine (dg _).call ?_
            | refine (bl).call ?_
            | (apply Here.norm; (first | dsimp only [Env.putR, argEnv, pure1, newPtr, applyE, hset, List.length_cons, List.length_nil, List.length_append, List.set, List.cons_append, List.nil_append] | rfl); (first | dsimp only [Env.putR, argEnv, pure1, newPtr, applyE, hset, List.length_cons, List.length_nil, List.length_append, List.set, List.cons_append, List.nil_append] | rfl))
            | refine ⟨SlB.mk (by first | omega | decide) (by first | omega | decide) (by first | omega | decide), ?_⟩
            | refine ⟨_, rfl, ?_⟩
            | fail
          all_goals (apply Again.mk (n - 1, pos + (Utf8.decode (bs l) pos).2, true, out))
          all_goals first
            | exact ⟨hfit, by dsimp only; omega, by dsimp only; omega, g4⟩
            | (dsimp only; omega)
            | exact ⟨_, rfl, RT.of_eq rfl rfl⟩
      | false =>
        have st : stepC false ((Utf8.decode (bs l) pos).1 : Int) = [95] := by unfold stepC; rw [if_pos hb]; rfl
        rw [st] at g4
        cases out with
        | nil =>
          repeat' first
            | refine brP.tN (by omega) ?_
            | refine ⟨_, _, rfl, fun _ => ?_, fun hq => absurd (show pos < (bs l).size by omega) hq⟩
            | refine (dg _).call ?_
            | refine (bl).call ?_
            | refine (CallP.of_body (C_ok W0) B.strings_Builder_WriteByte rfl rfl rfl ?_)
            | refine (CallP.of_body (C_ok W0) B.strings_Builder_copyCheck rfl rfl rfl ?_)
            | refine ⟨Nat.zero_lt_succ _, _, _, _, _, _, rfl, Nat.zero_lt_succ _, ?_⟩
            | refine ⟨Nat.zero_lt_succ _, rfl, _, _, _, _, _, rfl, rfl, rfl, Nat.le_refl _, ?_⟩
            | (apply Here.norm; (first | dsimp only [Env.putR, argEnv, pure1, newPtr, applyE, hset, List.length_cons, List.length_nil, List.length_append, List.set, List.cons_append, List.nil_append] | rfl); (first | dsimp only [Env.putR, argEnv, pure1, newPtr, applyE, hset, List.length_cons, List.length_nil, List.length_append, List.set, List.cons_append, List.nil_append] | rfl))
            | refine ⟨_, _, _, _, _, rfl, rfl, rfl, Fits.mk (by first | exact Nat.le_of_ble_eq_true rfl | (dsimp only; omega)), rfl, ?_⟩
            | refine ⟨_, _, _, _, _, rfl, _, rfl, ?_⟩
            | refine ⟨SlB.mk (by first | omega | decide) (by first | omega | decide) (by first | omega | decide), ?_⟩
            | refine ⟨trivial, ?_⟩
            | refine ⟨by decide, rfl, by decide, ?_⟩
            | refine .inr ⟨by decide, _, _, _, _, _, rfl, rfl, Fits.mk (by first | exact Nat.le_of_ble_eq_true rfl | omega), ?_⟩
            | refine .inr ⟨by decide, by decide, Room.mk (by decide) (by decide), ?_⟩
            | refine ⟨by decide, ?_⟩
            | refine ⟨_, rfl, ?_⟩
            | fail
          apply Again.mk (n - 1, pos + (Utf8.decode (bs l) pos).2, true, [] ++ [95])
          · exact ⟨hfit, by dsimp only; omega, by dsimp only; simp only [List.length_append, List.length_cons, List.length_nil]; omega, g4⟩
          · dsimp only; omega
          refine ⟨_, rfl, ?_⟩
          dsimp only [List.map]
          rw [bldB_snoc, bbV_snoc]
          refine RT.ren [0, 1, 4] rfl rfl ?_ ?_
          all_goals (repeat' first
            | exact trivial
            | exact LTo.nil
            | refine ⟨⟨_, rfl, ?_, (fun z => by cases z)⟩, ?_⟩
            | refine BTo.cells (fun z => z) ?_
            | exact VTo.ptr (by decide)
            | exact VTo.slice (by decide)
            | refine LTo.cons ?_ ?_
            | refine VTo.int ?_
            | refine VTo.bool ?_
            | refine VTo.string ?_
            | (with_reducible rfl)
            | fail)
          all_goals first
            | exact ⟨rfl, rfl⟩
            | rfl
            | exact rfl
            | exact bytes_snoc rfl rfl
        | cons x t =>
          have hol : (byteV (x :: t)).length = t.length + 1 := by rw [byteV_length]; rfl
          have g3' : t.length + 1 ≤ pos := g3
          repeat' first
            | refine brP.tN (by omega) ?_
            | refine ⟨_, _, rfl, fun _ => ?_, fun hq => absurd (show pos < (bs l).size by omega) hq⟩
            | refine (dg _).call ?_
            | refine (bl).call ?_
            | refine (CallP.of_body (C_ok W0) B.strings_Builder_WriteByte rfl rfl rfl ?_)
            | refine (CallP.of_body (C_ok W0) B.strings_Builder_copyCheck rfl rfl rfl ?_)
            | refine ⟨rfl, Nat.zero_lt_succ _, ?_⟩
            | (apply Here.norm; (first | dsimp only [Env.putR, argEnv, pure1, newPtr, applyE, hset, List.length_cons, List.length_nil, List.length_append, List.set, List.cons_append, List.nil_append] | rfl); (first | dsimp only [Env.putR, argEnv, pure1, newPtr, applyE, hset, List.length_cons, List.length_nil, List.length_append, List.set, List.cons_append, List.nil_append] | rfl))
            | refine ⟨_, _, _, _, _, rfl, rfl, rfl, Fits.mk (by first | exact Nat.le_of_ble_eq_true rfl | (dsimp only; omega)), rfl, ?_⟩
            | refine ⟨_, _, _, _, _, rfl, _, rfl, ?_⟩
            | refine ⟨SlB.mk (by first | omega | decide) (by first | omega | decide) (by first | omega | decide), ?_⟩
            | refine ⟨trivial, ?_⟩
            | refine ⟨by decide, rfl, by decide, ?_⟩
            | refine .inr ⟨by decide, _, _, _, _, _, rfl, rfl, Fits.mk (by first | exact Nat.le_of_ble_eq_true rfl | omega), ?_⟩
            | refine .inr ⟨by decide, _, _, _, _, _, rfl, rfl, Room.mk (by omega) (by omega), .inr (.inr ⟨(by omega), rfl, rfl, rfl, (by first | omega | (simp; done) | (simp; omega)), (by omega), rfl, ?_⟩)⟩
            | refine ⟨by decide, ?_⟩
            | refine ⟨_, rfl, ?_⟩
            | fail
          apply Again.mk (n - 1, pos + (Utf8.decode (bs l) pos).2, true, (x :: t) ++ [95])
          · exact ⟨hfit, by dsimp only; omega, by dsimp only; simp only [List.length_append, List.length_cons, List.length_nil]; omega, g4⟩
          · dsimp only; omega
          refine ⟨_, rfl, ?_⟩
          dsimp only [List.map]
          rw [bldB_snoc, bbV_snoc]
          refine RT.ren [0, 1, 4] rfl rfl ?_ ?_
          all_goals (repeat' first
            | exact trivial
            | exact LTo.nil
            | refine ⟨⟨_, rfl, ?_, (fun z => by cases z)⟩, ?_⟩
            | refine BTo.cells (fun z => z) ?_
            | exact VTo.ptr (by decide)
            | exact VTo.slice (by decide)
            | refine LTo.cons ?_ ?_
            | refine VTo.int ?_
            | refine VTo.bool ?_
            | refine VTo.string ?_
            | (with_reducible rfl)
            | refine LTo.n ?_
            | fail)
          all_goals first
            | exact ⟨rfl, rfl⟩
            | rfl
            | exact rfl
            | exact bytes_snoc rfl rfl
    | false =>
      rw [hb] at bl g4
      by_cases c1 : ((Utf8.decode (bs l) pos).1 : Int) = 47
      · have st : stepC last ((Utf8.decode (bs l) pos).1 : Int) = [45] := by unfold stepC; rw [hb, if_neg (by decide), if_pos c1]
        rw [st] at g4
        cases out with
        | nil =>
          repeat' first
            | refine brP.tD (by omega) ?_
            | refine ⟨_, _, rfl, fun _ => ?_, fun hq => absurd (show pos < (bs l).size by omega) hq⟩
            | refine (dg _).call ?_
            | refine (bl).call ?_
            | refine (CallP.of_body (C_ok W0) B.strings_Builder_WriteByte rfl rfl rfl ?_)
            | refine (CallP.of_body (C_ok W0) B.strings_Builder_copyCheck rfl rfl rfl ?_)
            | refine ⟨Nat.zero_lt_succ _, _, _, _, _, _, rfl, Nat.zero_lt_succ _, ?_⟩
            | refine ⟨Nat.zero_lt_succ _, rfl, _, _, _, _, _, rfl, rfl, rfl, Nat.le_refl _, ?_⟩
            | (apply Here.norm; (first | dsimp only [Env.putR, argEnv, pure1, newPtr, applyE, hset, List.length_cons, List.length_nil, List.length_append, List.set, List.cons_append, List.nil_append] | rfl); (first | dsimp only [Env.putR, argEnv, pure1, newPtr, applyE, hset, List.length_cons, List.length_nil, List.length_append, List.set, List.cons_append, List.nil_append] | rfl))
            | refine ⟨_, _, _, _, _, rfl, rfl, rfl, Fits.mk (by first | exact Nat.le_of_ble_eq_true rfl | (dsimp only; omega)), rfl, ?_⟩
            | refine ⟨_, _, _, _, _, rfl, _, rfl, ?_⟩
            | refine ⟨SlB.mk (by first | omega | decide) (by first | omega | decide) (by first | omega | decide), ?_⟩
            | refine ⟨trivial, ?_⟩
            | refine ⟨by decide, rfl, by decide, ?_⟩
            | refine .inr ⟨by decide, _, _, _, _, _, rfl, rfl, Fits.mk (by first | exact Nat.le_of_ble_eq_true rfl | omega), ?_⟩
            | refine .inr ⟨by decide, by decide, Room.mk (by decide) (by decide), ?_⟩
            | refine ⟨by decide, ?_⟩
            | refine ⟨_, rfl, ?_⟩
            | fail
          apply Again.mk (n - 1, pos + (Utf8.decode (bs l) pos).2, false, [] ++ [45])
          · exact ⟨hfit, by dsimp only; omega, by dsimp only; simp only [List.length_append, List.length_cons, List.length_nil]; omega, g4⟩
          · dsimp only; omega
          refine ⟨_, rfl, ?_⟩
          dsimp only [List.map]
          rw [bldB_snoc, bbV_snoc]
          refine RT.ren [0, 1, 4] rfl rfl ?_ ?_
          all_goals (repeat' first
            | exact trivial
            | exact LTo.nil
            | refine ⟨⟨_, rfl, ?_, (fun z => by cases z)⟩, ?_⟩
            | refine BTo.cells (fun z => z) ?_
            | exact VTo.ptr (by decide)
            | exact VTo.slice (by decide)
            | refine LTo.cons ?_ ?_
            | refine VTo.int ?_
            | refine VTo.bool ?_
            | refine VTo.string ?_
            | (with_reducible rfl)
            | fail)
          all_goals first
            | exact ⟨rfl, rfl⟩
            | rfl
            | exact rfl
            | exact bytes_snoc rfl rfl
        | cons x t =>
          have hol : (byteV (x :: t)).length = t.length + 1 := by rw [byteV_length]; rfl
          have g3' : t.length + 1 ≤ pos := g3
          repeat' first
            | refine brP.tD (by omega) ?_
            | refine ⟨_, _, rfl, fun _ => ?_, fun hq => absurd (show pos < (bs l).size by omega) hq⟩
            | refine (dg _).call ?_
            | refine (bl).call ?_
            | refine (CallP.of_body (C_ok W0) B.strings_Builder_WriteByte rfl rfl rfl ?_)
            | refine (CallP.of_body (C_ok W0) B.strings_Builder_copyCheck rfl rfl rfl ?_)
            | refine ⟨rfl, Nat.zero_lt_succ _, ?_⟩
            | (apply Here.norm; (first | dsimp only [Env.putR, argEnv, pure1, newPtr, applyE, hset, List.length_cons, List.length_nil, List.length_append, List.set, List.cons_append, List.nil_append] | rfl); (first | dsimp only [Env.putR, argEnv, pure1, newPtr, applyE, hset, List.length_cons, List.length_nil, List.length_append, List.set, List.cons_append, List.nil_append] | rfl))
            | refine ⟨_, _, _, _, _, rfl, rfl, rfl, Fits.mk (by first | exact Nat.le_of_ble_eq_true rfl | (dsimp only; omega)), rfl, ?_⟩
            | refine ⟨_, _, _, _, _, rfl, _, rfl, ?_⟩
            | refine ⟨SlB.mk (by first | omega | decide) (by first | omega | decide) (by first | omega | decide), ?_⟩
            | refine ⟨trivial, ?_⟩
            | refine ⟨by decide, rfl, by decide, ?_⟩
            | refine .inr ⟨by decide, _, _, _, _, _, rfl, rfl, Fits.mk (by first | exact Nat.le_of_ble_eq_true rfl | omega), ?_⟩
            | refine .inr ⟨by decide, _, _, _, _, _, rfl, rfl, Room.mk (by omega) (by omega), .inr (.inr ⟨(by omega), rfl, rfl, rfl, (by first | omega | (simp; done) | (simp; omega)), (by omega), rfl, ?_⟩)⟩
            | refine ⟨by decide, ?_⟩
            | refine ⟨_, rfl, ?_⟩
            | fail
          apply Again.mk (n - 1, pos + (Utf8.decode (bs l) pos).2, false, (x :: t) ++ [45])
          · exact ⟨hfit, by dsimp only; omega, by dsimp only; simp only [List.length_append, List.length_cons, List.length_nil]; omega, g4⟩
          · dsimp only; omega
          refine ⟨_, rfl, ?_⟩
          dsimp only [List.map]
          rw [bldB_snoc, bbV_snoc]
          refine RT.ren [0, 1, 4] rfl rfl ?_ ?_
          all_goals (repeat' first
            | exact trivial
            | exact LTo.nil
            | refine ⟨⟨_, rfl, ?_, (fun z => by cases z)⟩, ?_⟩
            | refine BTo.cells (fun z => z) ?_
            | exact VTo.ptr (by decide)
            | exact VTo.slice (by decide)
            | refine LTo.cons ?_ ?_
            | refine VTo.int ?_
            | refine VTo.bool ?_
            | refine VTo.string ?_
            | (with_reducible rfl)
            | refine LTo.n ?_
            | fail)
          all_goals first
            | exact ⟨rfl, rfl⟩
            | rfl
            | exact rfl
            | exact bytes_snoc rfl rfl
      · by_cases c2 : ((Utf8.decode (bs l) pos).1 : Int) = 46
        · have st : stepC last ((Utf8.decode (bs l) pos).1 : Int) = [46] := by unfold stepC; rw [hb, if_neg (by decide), if_neg c1, if_pos (.inl c2), c2]; rfl
          have cw : IntKind.u8.wrap ((Utf8.decode (bs l) pos).1 : Int) = ((46 : UInt8).toNat : Int) := by rw [c2]; rfl
          rw [st] at g4
          cases out with
          | nil =>
            repeat' first
              | refine brP.tD (by omega) ?_
              | refine brP.fD (by omega) ?_
              | refine ⟨_, _, rfl, fun _ => ?_, fun hq => absurd (show pos < (bs l).size by omega) hq⟩
              | refine (dg _).call ?_
              | refine (bl).call ?_
              | refine (CallP.of_body (C_ok W0) B.strings_Builder_WriteByte rfl rfl rfl ?_)
              | refine (CallP.of_body (C_ok W0) B.strings_Builder_copyCheck rfl rfl rfl ?_)
              | refine ⟨Nat.zero_lt_succ _, _, _, _, _, _, rfl, Nat.zero_lt_succ _, ?_⟩
              | refine ⟨Nat.zero_lt_succ _, rfl, _, _, _, _, _, rfl, rfl, rfl, Nat.le_refl _, ?_⟩
              | (apply Here.norm; (first | dsimp only [Env.putR, argEnv, pure1, newPtr, applyE, hset, List.length_cons, List.length_nil, List.length_append, List.set, List.cons_append, List.nil_append] | rfl); (first | dsimp only [Env.putR, argEnv, pure1, newPtr, applyE, hset, List.length_cons, List.length_nil, List.length_append, List.set, List.cons_append, List.nil_append] | rfl))
              | refine ⟨_, _, _, _, _, rfl, rfl, rfl, Fits.mk (by first | exact Nat.le_of_ble_eq_true rfl | (dsimp only; omega)), rfl, ?_⟩
              | refine ⟨_, _, _, _, _, rfl, _, rfl, ?_⟩
              | refine ⟨SlB.mk (by first | omega | decide) (by first | omega | decide) (by first | omega | decide), ?_⟩
              | refine ⟨trivial, ?_⟩
              | refine ⟨by decide, rfl, by decide, ?_⟩
              | refine .inr ⟨by decide, _, _, _, _, _, rfl, rfl, Fits.mk (by first | exact Nat.le_of_ble_eq_true rfl | omega), ?_⟩
              | refine .inr ⟨by decide, by decide, Room.mk (by decide) (by decide), ?_⟩
              | refine ⟨by decide, ?_⟩
              | refine ⟨_, rfl, ?_⟩
              | fail
            apply Again.mk (n - 1, pos + (Utf8.decode (bs l) pos).2, false, [] ++ [46])
            · exact ⟨hfit, by dsimp only; omega, by dsimp only; simp only [List.length_append, List.length_cons, List.length_nil]; omega, g4⟩
            · dsimp only; omega
            refine ⟨_, rfl, ?_⟩
            dsimp only [List.map]
            rw [bldB_snoc, bbV_snoc]
            refine RT.ren [0, 1, 4] rfl rfl ?_ ?_
            all_goals (repeat' first
              | exact trivial
              | exact LTo.nil
              | refine ⟨⟨_, rfl, ?_, (fun z => by cases z)⟩, ?_⟩
              | refine BTo.cells (fun z => z) ?_
              | exact VTo.ptr (by decide)
              | exact VTo.slice (by decide)
              | refine LTo.cons ?_ ?_
              | refine VTo.int ?_
              | refine VTo.bool ?_
              | refine VTo.string ?_
              | (with_reducible rfl)
              | fail)
            all_goals first
              | exact ⟨rfl, rfl⟩
              | rfl
              | exact cw
              | exact bytes_snoc rfl cw
          | cons x t =>
            have hol : (byteV (x :: t)).length = t.length + 1 := by rw [byteV_length]; rfl
            have g3' : t.length + 1 ≤ pos := g3
            repeat' first
              | refine brP.tD (by omega) ?_
              | refine brP.fD (by omega) ?_
              | refine ⟨_, _, rfl, fun _ => ?_, fun hq => absurd (show pos < (bs l).size by omega) hq⟩
              | refine (dg _).call ?_
              | refine (bl).call ?_
              | refine (CallP.of_body (C_ok W0) B.strings_Builder_WriteByte rfl rfl rfl ?_)
              | refine (CallP.of_body (C_ok W0) B.strings_Builder_copyCheck rfl rfl rfl ?_)
              | refine ⟨rfl, Nat.zero_lt_succ _, ?_⟩
              | (apply Here.norm; (first | dsimp only [Env.putR, argEnv, pure1, newPtr, applyE, hset, List.length_cons, List.length_nil, List.length_append, List.set, List.cons_append, List.nil_append] | rfl); (first | dsimp only [Env.putR, argEnv, pure1, newPtr, applyE, hset, List.length_cons, List.length_nil, List.length_append, List.set, List.cons_append, List.nil_append] | rfl))
              | refine ⟨_, _, _, _, _, rfl, rfl, rfl, Fits.mk (by first | exact Nat.le_of_ble_eq_true rfl | (dsimp only; omega)), rfl, ?_⟩
              | refine ⟨_, _, _, _, _, rfl, _, rfl, ?_⟩
              | refine ⟨SlB.mk (by first | omega | decide) (by first | omega | decide) (by first | omega | decide), ?_⟩
              | refine ⟨trivial, ?_⟩
              | refine ⟨by decide, rfl, by decide, ?_⟩
              | refine .inr ⟨by decide, _, _, _, _, _, rfl, rfl, Fits.mk (by first | exact Nat.le_of_ble_eq_true rfl | omega), ?_⟩
              | refine .inr ⟨by decide, _, _, _, _, _, rfl, rfl, Room.mk (by omega) (by omega), .inr (.inr ⟨(by omega), rfl, rfl, rfl, (by first | omega | (simp; done) | (simp; omega)), (by omega), rfl, ?_⟩)⟩
              | refine ⟨by decide, ?_⟩
              | refine ⟨_, rfl, ?_⟩
              | fail
            apply Again.mk (n - 1, pos + (Utf8.decode (bs l) pos).2, false, (x :: t) ++ [46])
            · exact ⟨hfit, by dsimp only; omega, by dsimp only; simp only [List.length_append, List.length_cons, List.length_nil]; omega, g4⟩
            · dsimp only; omega
            refine ⟨_, rfl, ?_⟩
            dsimp only [List.map]
            rw [bldB_snoc, bbV_snoc]
            refine RT.ren [0, 1, 4] rfl rfl ?_ ?_
            all_goals (repeat' first
              | exact trivial
              | exact LTo.nil
              | refine ⟨⟨_, rfl, ?_, (fun z => by cases z)⟩, ?_⟩
              | refine BTo.cells (fun z => z) ?_
              | exact VTo.ptr (by decide)
              | exact VTo.slice (by decide)
              | refine LTo.cons ?_ ?_
              | refine VTo.int ?_
              | refine VTo.bool ?_
              | refine VTo.string ?_
              | (with_reducible rfl)
              | refine LTo.n ?_
              | fail)
            all_goals first
              | exact ⟨rfl, rfl⟩
              | rfl
              | exact cw
              | exact bytes_snoc rfl cw
        · by_cases c3 : ((Utf8.decode (bs l) pos).1 : Int) < 128
          · have ew : IntKind.u8.wrap ((Utf8.decode (bs l) pos).1 : Int) = ((Utf8.decode (bs l) pos).1 : Int) := by
              rw [show ∀ x, IntKind.u8.wrap x = x % 256 from fun x => by simp [IntKind.wrap, IntKind.bits, IntKind.signed]]; omega
            have nm := nm (IntKind.u8.wrap ((Utf8.decode (bs l) pos).1 : Int))
            cases hn : nb (IntKind.u8.wrap ((Utf8.decode (bs l) pos).1 : Int)) with
            | true =>
              rw [hn] at nm
              rw [ew] at hn
              have st : stepC last ((Utf8.decode (bs l) pos).1 : Int) = [UInt8.ofNat ((Utf8.decode (bs l) pos).1 : Int).toNat] := by unfold stepC; rw [hb, if_neg (by decide), if_neg c1, if_pos (.inr ⟨c3, hn⟩)]
              have cw : IntKind.u8.wrap ((Utf8.decode (bs l) pos).1 : Int) = ((UInt8.ofNat ((Utf8.decode (bs l) pos).1 : Int).toNat).toNat : Int) := by
                rw [ew, UInt8.toNat_ofNat']; omega
              rw [st] at g4
              cases out with
              | nil =>
                repeat' first
                  | refine brP.tD (by omega) ?_
                  | refine brP.fD (by omega) ?_
                  | refine ⟨_, _, rfl, fun _ => ?_, fun hq => absurd (show pos < (bs l).size by omega) hq⟩
                  | refine (dg _).call ?_
                  | refine (bl).call ?_
                  | refine (nm).call ?_
                  | refine (CallP.of_body (C_ok W0) B.strings_Builder_WriteByte rfl rfl rfl ?_)
                  | refine (CallP.of_body (C_ok W0) B.strings_Builder_copyCheck rfl rfl rfl ?_)
                  | refine ⟨Nat.zero_lt_succ _, _, _, _, _, _, rfl, Nat.zero_lt_succ _, ?_⟩
                  | refine ⟨Nat.zero_lt_succ _, rfl, _, _, _, _, _, rfl, rfl, rfl, Nat.le_refl _, ?_⟩
                  | (apply Here.norm; (first | dsimp only [Env.putR, argEnv, pure1, newPtr, applyE, hset, List.length_cons, List.length_nil, List.length_append, List.set, List.cons_append, List.nil_append] | rfl); (first | dsimp only [Env.putR, argEnv, pure1, newPtr, applyE, hset, List.length_cons, List.length_nil, List.length_append, List.set, List.cons_append, List.nil_append] | rfl))
                  | refine ⟨_, _, _, _, _, rfl, rfl, rfl, Fits.mk (by first | exact Nat.le_of_ble_eq_true rfl | (dsimp only; omega)), rfl, ?_⟩
                  | refine ⟨_, _, _, _, _, rfl, _, rfl, ?_⟩
                  | refine ⟨SlB.mk (by first | omega | decide) (by first | omega | decide) (by first | omega | decide), ?_⟩
                  | refine ⟨trivial, ?_⟩
                  | refine ⟨by decide, rfl, by decide, ?_⟩
                  | refine .inr ⟨by decide, _, _, _, _, _, rfl, rfl, Fits.mk (by first | exact Nat.le_of_ble_eq_true rfl | omega), ?_⟩
                  | refine .inr ⟨by decide, by decide, Room.mk (by decide) (by decide), ?_⟩
                  | refine ⟨by decide, ?_⟩
                  | refine ⟨_, rfl, ?_⟩
                  | fail
                apply Again.mk (n - 1, pos + (Utf8.decode (bs l) pos).2, false, [] ++ [(UInt8.ofNat ((Utf8.decode (bs l) pos).1 : Int).toNat)])
                · exact ⟨hfit, by dsimp only; omega, by dsimp only; simp only [List.length_append, List.length_cons, List.length_nil]; omega, g4⟩
                · dsimp only; omega
                refine ⟨_, rfl, ?_⟩
                dsimp only [List.map]
                rw [bldB_snoc, bbV_snoc]
                refine RT.ren [0, 1, 4] rfl rfl ?_ ?_
                all_goals (repeat' first
                  | exact trivial
                  | exact LTo.nil
                  | refine ⟨⟨_, rfl, ?_, (fun z => by cases z)⟩, ?_⟩
                  | refine BTo.cells (fun z => z) ?_
                  | exact VTo.ptr (by decide)
                  | exact VTo.slice (by decide)
                  | refine LTo.cons ?_ ?_
                  | refine VTo.int ?_
                  | refine VTo.bool ?_
                  | refine VTo.string ?_
                  | (with_reducible rfl)
                  | fail)
                all_goals first
                  | exact ⟨rfl, rfl⟩
                  | rfl
                  | exact cw
                  | exact bytes_snoc rfl cw
              | cons x t =>
                have hol : (byteV (x :: t)).length = t.length + 1 := by rw [byteV_length]; rfl
                have g3' : t.length + 1 ≤ pos := g3
                repeat' first
                  | refine brP.tD (by omega) ?_
                  | refine brP.fD (by omega) ?_
                  | refine ⟨_, _, rfl, fun _ => ?_, fun hq => absurd (show pos < (bs l).size by omega) hq⟩
                  | refine (dg _).call ?_
                  | refine (bl).call ?_
                  | refine (nm).call ?_
                  | refine (CallP.of_body (C_ok W0) B.strings_Builder_WriteByte rfl rfl rfl ?_)
                  | refine (CallP.of_body (C_ok W0) B.strings_Builder_copyCheck rfl rfl rfl ?_)
                  | refine ⟨rfl, Nat.zero_lt_succ _, ?_⟩
                  | (apply Here.norm; (first | dsimp only [Env.putR, argEnv, pure1, newPtr, applyE, hset, List.length_cons, List.length_nil, List.length_append, List.set, List.cons_append, List.nil_append] | rfl); (first | dsimp only [Env.putR, argEnv, pure1, newPtr, applyE, hset, List.length_cons, List.length_nil, List.length_append, List.set, List.cons_append, List.nil_append] | rfl))
                  | refine ⟨_, _, _, _, _, rfl, rfl, rfl, Fits.mk (by first | exact Nat.le_of_ble_eq_true rfl | (dsimp only; omega)), rfl, ?_⟩
                  | refine ⟨_, _, _, _, _, rfl, _, rfl, ?_⟩
                  | refine ⟨SlB.mk (by first | omega | decide) (by first | omega | decide) (by first | omega | decide), ?_⟩
                  | refine ⟨trivial, ?_⟩
                  | refine ⟨by decide, rfl, by decide, ?_⟩
                  | refine .inr ⟨by decide, _, _, _, _, _, rfl, rfl, Fits.mk (by first | exact Nat.le_of_ble_eq_true rfl | omega), ?_⟩
                  | refine .inr ⟨by decide, _, _, _, _, _, rfl, rfl, Room.mk (by omega) (by omega), .inr (.inr ⟨(by omega), rfl, rfl, rfl, (by first | omega | (simp; done) | (simp; omega)), (by omega), rfl, ?_⟩)⟩
                  | refine ⟨by decide, ?_⟩
                  | refine ⟨_, rfl, ?_⟩
                  | fail
                apply Again.mk (n - 1, pos + (Utf8.decode (bs l) pos).2, false, (x :: t) ++ [(UInt8.ofNat ((Utf8.decode (bs l) pos).1 : Int).toNat)])
                · exact ⟨hfit, by dsimp only; omega, by dsimp only; simp only [List.length_append, List.length_cons, List.length_nil]; omega, g4⟩
                · dsimp only; omega
                refine ⟨_, rfl, ?_⟩
                dsimp only [List.map]
                rw [bldB_snoc, bbV_snoc]
                refine RT.ren [0, 1, 4] rfl rfl ?_ ?_
                all_goals (repeat' first
                  | exact trivial
                  | exact LTo.nil
                  | refine ⟨⟨_, rfl, ?_, (fun z => by cases z)⟩, ?_⟩
                  | refine BTo.cells (fun z => z) ?_
                  | exact VTo.ptr (by decide)
                  | exact VTo.slice (by decide)
                  | refine LTo.cons ?_ ?_
                  | refine VTo.int ?_
                  | refine VTo.bool ?_
                  | refine VTo.string ?_
                  | (with_reducible rfl)
                  | refine LTo.n ?_
                  | fail)
                all_goals first
                  | exact ⟨rfl, rfl⟩
                  | rfl
                  | exact cw
                  | exact bytes_snoc rfl cw
            | false =>
              rw [hn] at nm
              rw [ew] at hn
              have st : stepC last ((Utf8.decode (bs l) pos).1 : Int) = [] := by unfold stepC; rw [hb, if_neg (by decide), if_neg c1, if_neg (fun h => h.elim c2 fun h => by rw [hn] at h; cases h.2)]
              rw [st, List.append_nil] at g4
              repeat' first
                | refine brP.tD (by omega) ?_
                | refine brP.fD (by omega) ?_
                | refine ⟨_, _, rfl, fun _ => ?_, fun hq => absurd (show pos < (bs l).size by omega) hq⟩
                | refine (dg _).call ?_
                | refine (bl).call ?_
                | refine (nm).call ?_
                | (apply Here.norm; (first | dsimp only [Env.putR, argEnv, pure1, newPtr, applyE, hset, List.length_cons, List.length_nil, List.length_append, List.set, List.cons_append, List.nil_append] | rfl); (first | dsimp only [Env.putR, argEnv, pure1, newPtr, applyE, hset, List.length_cons, List.length_nil, List.length_append, List.set, List.cons_append, List.nil_append] | rfl))
                | refine ⟨SlB.mk (by first | omega | decide) (by first | omega | decide) (by first | omega | decide), ?_⟩
                | refine ⟨_, rfl, ?_⟩
                | fail
              all_goals (apply Again.mk (n - 1, pos + (Utf8.decode (bs l) pos).2, false, out))
              all_goals first
                | exact ⟨hfit, by dsimp only; omega, by dsimp only; omega, g4⟩
                | (dsimp only; omega)
                | exact ⟨_, rfl, RT.of_eq rfl rfl⟩
          · have st : stepC last ((Utf8.decode (bs l) pos).1 : Int) = [] := by unfold stepC; rw [hb, if_neg (by decide), if_neg c1, if_neg (fun h => h.elim c2 fun h => c3 h.1)]
            have nm := nm 0
            rw [st, List.append_nil] at g4
            repeat' first
              | refine brP.fD (by omega) ?_
              | refine ⟨_, _, rfl, fun _ => ?_, fun hq => absurd (show pos < (bs l).size by omega) hq⟩
              | refine (dg _).call ?_
              | refine (bl).call ?_
              | (apply Here.norm; (first | dsimp only [Env.putR, argEnv, pure1, newPtr, applyE, hset, List.length_cons, List.length_nil, List.length_append, List.set, List.cons_append, List.nil_append] | rfl); (first | dsimp only [Env.putR, argEnv, pure1, newPtr, applyE, hset, List.length_cons, List.length_nil, List.length_append, List.set, List.cons_append, List.nil_append] | rfl))
              | refine ⟨SlB.mk (by first | omega | decide) (by first | omega | decide) (by first | omega | decide), ?_⟩
              | refine ⟨_, rfl, ?_⟩
              | fail
            all_goals (apply Again.mk (n - 1, pos + (Utf8.decode (bs l) pos).2, false, out))
            all_goals first
              | exact ⟨hfit, by dsimp only; omega, by dsimp only; omega, g4⟩
              | (dsimp only; omega)
              | exact ⟨_, rfl, RT.of_eq rfl rfl⟩
  · rw [gathP_end hp] at g4
    subst g4
    have hg := gath_len l
    have hcl := cleanL_len l
    have hcut := cutA_len 46 (gath l) []
    have sp := strings_SplitE hW (gath l) (by omega) 46
    have df := fun nid => slices_DeleteFunc (W0 := W0) List.isEmpty I.name_Clean_1 (cutA 46 [] (gath l)) (by omega) (fun x _ => name_Clean_1 x) 3 nid
    have hk : (keep List.isEmpty (cutA 46 [] (gath l))).length ≤ (cutA 46 [] (gath l)).length := List.length_filter_le _ _
    have jp := strings_Join (W0 := W0) (keep List.isEmpty (cutA 46 [] (gath l))) 46 (by omega) (by show (cleanL l).length ≤ _; omega)
    rw [List.length_map] at jp
    have jn : ∀ nid, EffC (C W0) I.strings_Join [.slice (some ⟨3, 0, none⟩) (keep List.isEmpty (cutA 46 [] (gath l))).length (cutA 46 [] (gath l)).length, .string ⟨#[46]⟩] nid ⟨some (.string (bs (cleanL l))), [(3, .cells (pcs (keep List.isEmpty (cutA 46 [] (gath l)) ++ List.replicate ((cutA 46 [] (gath l)).length - (keep List.isEmpty (cutA 46 [] (gath l))).length) [])) 1 true false Y.string)], [], []⟩ := fun nid =>
      jp.lend (.string _) [(3, .cells (pcs (keep List.isEmpty (cutA 46 [] (gath l)) ++ List.replicate ((cutA 46 [] (gath l)).length - (keep List.isEmpty (cutA 46 [] (gath l))).length) [])) 1 true false Y.string)] ⟨inferInstance, trivial⟩
        (.cons (VTo.lend (List.mem_singleton.mpr rfl) (by simp) (take_pcs _ _)) (.cons (VTo.n rfl) .nil)) nid
    have va := name_Valid hW (cleanL l) (by omega)
    generalize gath l = out at *
    unfold cleanV
    cases hv : okName (cleanL l) with
    | true =>
      rw [if_pos rfl]
      rw [hv] at va
      cases out with
      | nil =>
        repeat' first
          | refine ⟨_, _, rfl, fun hq => absurd (show pos < l.length by omega) hp, fun _ => ?_⟩
          | refine (CallP.of_body (C_ok W0) B.strings_Builder_String rfl rfl rfl ?_)
          | refine ⟨rfl, ?_⟩
          | refine (sp _).call (by first | exact trivial | exact ⟨rfl, trivial⟩ | exact ⟨rfl, rfl, trivial⟩ | exact ⟨rfl, rfl, rfl, trivial⟩) ?_
          | refine (df _).call (by first | exact trivial | exact ⟨rfl, trivial⟩ | exact ⟨rfl, rfl, trivial⟩ | exact ⟨rfl, rfl, rfl, trivial⟩) ?_
          | refine (jn _).call (by first | exact trivial | exact ⟨rfl, trivial⟩ | exact ⟨rfl, rfl, trivial⟩ | exact ⟨rfl, rfl, rfl, trivial⟩) ?_
          | refine (va).call ?_
          | (apply Here.norm; (first | dsimp only [Env.putR, argEnv, pure1, newPtr, applyE, hset, List.length_cons, List.length_nil, List.length_append, List.set, List.cons_append, List.nil_append] | rfl); (first | dsimp only [Env.putR, argEnv, pure1, newPtr, applyE, hset, List.length_cons, List.length_nil, List.length_append, List.set, List.cons_append, List.nil_append] | rfl))
          | refine ⟨_, _, _, _, _, rfl, _, rfl, ?_⟩
          | refine draw_go (C_ok W0) (by kernel_rfl) ?_
          | refine ⟨cpt_ok (by kernel_rfl), ?_⟩
          | refine ⟨_, rfl, ?_⟩
          | fail
        rfl
      | cons x t =>
        have hol : (byteV (x :: t)).length = t.length + 1 := by rw [byteV_length]; rfl
        have e1 : List.take (x :: t).length (List.drop 0 (byteV (x :: t))) = byteV (x :: t) := by rw [List.drop_zero, List.take_of_length_le (by rw [byteV_length]; exact Nat.le_refl _)]
        have e2 : 0 + (x :: t).length ≤ (byteV (x :: t)).length := by rw [byteV_length, Nat.zero_add]; exact Nat.le_refl _
        have e3 : (x :: t).length ≤ 9223372036854775807 := by omega
        repeat' first
          | refine ⟨_, _, rfl, fun hq => absurd (show pos < l.length by omega) hp, fun _ => ?_⟩
          | refine (CallP.of_body (C_ok W0) B.strings_Builder_String rfl rfl rfl ?_)
          | refine ⟨rfl, _, _, _, _, _, rfl, rfl, rfl, x :: t, rfl, Nat.zero_lt_succ _, e3, e2, e1, ?_⟩
          | refine ⟨rfl, ?_⟩
          | refine ⟨Nat.zero_lt_succ _, ?_⟩
          | refine (sp _).call (by first | exact trivial | exact ⟨rfl, trivial⟩ | exact ⟨rfl, rfl, trivial⟩ | exact ⟨rfl, rfl, rfl, trivial⟩) ?_
          | refine (df _).call (by first | exact trivial | exact ⟨rfl, trivial⟩ | exact ⟨rfl, rfl, trivial⟩ | exact ⟨rfl, rfl, rfl, trivial⟩) ?_
          | refine (jn _).call (by first | exact trivial | exact ⟨rfl, trivial⟩ | exact ⟨rfl, rfl, trivial⟩ | exact ⟨rfl, rfl, rfl, trivial⟩) ?_
          | refine (va).call ?_
          | (apply Here.norm; (first | dsimp only [Env.putR, argEnv, pure1, newPtr, applyE, hset, List.length_cons, List.length_nil, List.length_append, List.set, List.cons_append, List.nil_append] | rfl); (first | dsimp only [Env.putR, argEnv, pure1, newPtr, applyE, hset, List.length_cons, List.length_nil, List.length_append, List.set, List.cons_append, List.nil_append] | rfl))
          | refine ⟨_, _, _, _, _, rfl, _, rfl, ?_⟩
          | refine draw_go (C_ok W0) (by kernel_rfl) ?_
          | refine ⟨cpt_ok (by kernel_rfl), ?_⟩
          | refine ⟨_, rfl, ?_⟩
          | fail
        rfl
    | false =>
      rw [if_neg (by decide)]
      rw [hv] at va
      cases out with
      | nil =>
        repeat' first
          | refine ⟨_, _, rfl, fun hq => absurd (show pos < l.length by omega) hp, fun _ => ?_⟩
          | refine (CallP.of_body (C_ok W0) B.strings_Builder_String rfl rfl rfl ?_)
          | refine ⟨rfl, ?_⟩
          | refine (sp _).call (by first | exact trivial | exact ⟨rfl, trivial⟩ | exact ⟨rfl, rfl, trivial⟩ | exact ⟨rfl, rfl, rfl, trivial⟩) ?_
          | refine (df _).call (by first | exact trivial | exact ⟨rfl, trivial⟩ | exact ⟨rfl, rfl, trivial⟩ | exact ⟨rfl, rfl, rfl, trivial⟩) ?_
          | refine (jn _).call (by first | exact trivial | exact ⟨rfl, trivial⟩ | exact ⟨rfl, rfl, trivial⟩ | exact ⟨rfl, rfl, rfl, trivial⟩) ?_
          | refine (va).call ?_
          | (apply Here.norm; (first | dsimp only [Env.putR, argEnv, pure1, newPtr, applyE, hset, List.length_cons, List.length_nil, List.length_append, List.set, List.cons_append, List.nil_append] | rfl); (first | dsimp only [Env.putR, argEnv, pure1, newPtr, applyE, hset, List.length_cons, List.length_nil, List.length_append, List.set, List.cons_append, List.nil_append] | rfl))
          | refine ⟨_, _, _, _, _, rfl, _, rfl, ?_⟩
          | refine draw_go (C_ok W0) (by kernel_rfl) ?_
          | refine ⟨cpt_ok (by kernel_rfl), ?_⟩
          | refine ⟨_, rfl, ?_⟩
          | fail
        rfl
      | cons x t =>
        have hol : (byteV (x :: t)).length = t.length + 1 := by rw [byteV_length]; rfl
        have e1 : List.take (x :: t).length (List.drop 0 (byteV (x :: t))) = byteV (x :: t) := by rw [List.drop_zero, List.take_of_length_le (by rw [byteV_length]; exact Nat.le_refl _)]
        have e2 : 0 + (x :: t).length ≤ (byteV (x :: t)).length := by rw [byteV_length, Nat.zero_add]; exact Nat.le_refl _
        have e3 : (x :: t).length ≤ 9223372036854775807 := by omega
        repeat' first
          | refine ⟨_, _, rfl, fun hq => absurd (show pos < l.length by omega) hp, fun _ => ?_⟩
          | refine (CallP.of_body (C_ok W0) B.strings_Builder_String rfl rfl rfl ?_)
          | refine ⟨rfl, _, _, _, _, _, rfl, rfl, rfl, x :: t, rfl, Nat.zero_lt_succ _, e3, e2, e1, ?_⟩
          | refine ⟨rfl, ?_⟩
          | refine ⟨Nat.zero_lt_succ _, ?_⟩
          | refine (sp _).call (by first | exact trivial | exact ⟨rfl, trivial⟩ | exact ⟨rfl, rfl, trivial⟩ | exact ⟨rfl, rfl, rfl, trivial⟩) ?_
          | refine (df _).call (by first | exact trivial | exact ⟨rfl, trivial⟩ | exact ⟨rfl, rfl, trivial⟩ | exact ⟨rfl, rfl, rfl, trivial⟩) ?_
          | refine (jn _).call (by first | exact trivial | exact ⟨rfl, trivial⟩ | exact ⟨rfl, rfl, trivial⟩ | exact ⟨rfl, rfl, rfl, trivial⟩) ?_
          | refine (va).call ?_
          | (apply Here.norm; (first | dsimp only [Env.putR, argEnv, pure1, newPtr, applyE, hset, List.length_cons, List.length_nil, List.length_append, List.set, List.cons_append, List.nil_append] | rfl); (first | dsimp only [Env.putR, argEnv, pure1, newPtr, applyE, hset, List.length_cons, List.length_nil, List.length_append, List.set, List.cons_append, List.nil_append] | rfl))
          | refine ⟨_, _, _, _, _, rfl, _, rfl, ?_⟩
          | refine draw_go (C_ok W0) (by kernel_rfl) ?_
          | refine ⟨cpt_ok (by kernel_rfl), ?_⟩
          | refine ⟨_, rfl, ?_⟩
          | fail
        rfl
end Go.Proofs.YtioahngbfdfcaaaDoor
