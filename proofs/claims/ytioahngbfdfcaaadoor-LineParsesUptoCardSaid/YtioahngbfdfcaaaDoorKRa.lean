import Derived.Test.YtioahngbfdfcaaaDoorKNw
import Derived.Test.YtioahngbfdfcaaaDoorKLc
set_option linter.unusedVariables false
set_option linter.unusedSimpArgs false
namespace Go.Proofs.YtioahngbfdfcaaaDoor
open Go Go.Den Go.RowKit
variable {W0 : World}
/-! tumblerref03: Sort, Byte, Bytes, Cut, Valid -/
theorem ref3_Sort (c : Int) : PureF (C W0) I.tumblerref03_Sort [.int .u8 c] (.int .i64 (sortV c)) := by
  refine PureF.E (CallP.of_body (C_ok W0) B.tumblerref03_Sort rfl rfl rfl ?_)
  unfold sortV
  by_cases h1 : 48 ≤ c ∧ c ≤ 57
  · rw [if_pos h1]
    repeat' first
      | refine brP.tD (by omega) ?_
      | (apply Here.norm; (first | dsimp only [Env.putR, argEnv, pure1, newPtr, applyE, hset, List.length_cons, List.length_nil, List.length_append, List.set, List.cons_append, List.nil_append] | rfl); (first | dsimp only [Env.putR, argEnv, pure1, newPtr, applyE, hset, List.length_cons, List.length_nil, List.length_append, List.set, List.cons_append, List.nil_append] | rfl))
      | fail
    rfl
  · rw [if_neg h1]
    by_cases h2 : 65 ≤ c ∧ c ≤ 90
    · rw [if_pos h2]
      repeat' first
        | refine brP.tD (by omega) ?_
        | refine brP.fD (by omega) ?_
        | (apply Here.norm; (first | dsimp only [Env.putR, argEnv, pure1, newPtr, applyE, hset, List.length_cons, List.length_nil, List.length_append, List.set, List.cons_append, List.nil_append] | rfl); (first | dsimp only [Env.putR, argEnv, pure1, newPtr, applyE, hset, List.length_cons, List.length_nil, List.length_append, List.set, List.cons_append, List.nil_append] | rfl))
        | fail
      rfl
    · rw [if_neg h2]
      by_cases h3 : 97 ≤ c ∧ c ≤ 122
      · rw [if_pos h3]
        repeat' first
          | refine brP.tD (by omega) ?_
          | refine brP.fD (by omega) ?_
          | (apply Here.norm; (first | dsimp only [Env.putR, argEnv, pure1, newPtr, applyE, hset, List.length_cons, List.length_nil, List.length_append, List.set, List.cons_append, List.nil_append] | rfl); (first | dsimp only [Env.putR, argEnv, pure1, newPtr, applyE, hset, List.length_cons, List.length_nil, List.length_append, List.set, List.cons_append, List.nil_append] | rfl))
          | fail
        rfl
      · rw [if_neg h3]
        repeat' first
          | refine brP.fD (by omega) ?_
          | (apply Here.norm; (first | dsimp only [Env.putR, argEnv, pure1, newPtr, applyE, hset, List.length_cons, List.length_nil, List.length_append, List.set, List.cons_append, List.nil_append] | rfl); (first | dsimp only [Env.putR, argEnv, pure1, newPtr, applyE, hset, List.length_cons, List.length_nil, List.length_append, List.set, List.cons_append, List.nil_append] | rfl))
          | refine brP.introD (fun h => ?_) (fun h => ?_)
          | fail
        all_goals rfl
theorem ref3_Byte (c : Int) : PureF (C W0) I.tumblerref03_Byte [.int .u8 c] (.bool (nb c)) := by
  have so := ref3_Sort (W0 := W0) c
  have sp := sort_pos c
  refine PureF.E (CallP.of_body (C_ok W0) B.tumblerref03_Byte rfl rfl rfl ?_)
  by_cases h1 : 0 < sortV c
  · have e : nb c = true := by unfold nb; rcases sp.mp h1 with h | h | h <;> simp [h]
    rw [e]
    repeat' first
      | refine brP.tD (by omega) ?_
      | refine (so).call ?_
      | (apply Here.norm; (first | dsimp only [Env.putR, argEnv, pure1, newPtr, applyE, hset, List.length_cons, List.length_nil, List.length_append, List.set, List.cons_append, List.nil_append] | rfl); (first | dsimp only [Env.putR, argEnv, pure1, newPtr, applyE, hset, List.length_cons, List.length_nil, List.length_append, List.set, List.cons_append, List.nil_append] | rfl))
      | fail
    rfl
  · have h2 : ¬ ((48 ≤ c ∧ c ≤ 57) ∨ (65 ≤ c ∧ c ≤ 90) ∨ (97 ≤ c ∧ c ≤ 122)) := fun h => h1 (sp.mpr h)
    have e : nb c = (decide (c = 95) || decide (c = 45)) := by
      unfold nb
      rw [decide_eq_false (fun h => h2 (.inl h)), decide_eq_false (fun h => h2 (.inr (.inl h))), decide_eq_false (fun h => h2 (.inr (.inr h)))]; rfl
    rw [e]
    by_cases h3 : c = 95
    ·
      repeat' first
        | refine brP.tD (by omega) ?_
        | refine brP.fD (by omega) ?_
        | refine (so).call ?_
        | (apply Here.norm; (first | dsimp only [Env.putR, argEnv, pure1, newPtr, applyE, hset, List.length_cons, List.length_nil, List.length_append, List.set, List.cons_append, List.nil_append] | rfl); (first | dsimp only [Env.putR, argEnv, pure1, newPtr, applyE, hset, List.length_cons, List.length_nil, List.length_append, List.set, List.cons_append, List.nil_append] | rfl))
        | fail
      subst h3; rfl
    · rw [decide_eq_false h3, Bool.false_or]
      repeat' first
        | refine brP.fD (by omega) ?_
        | refine (so).call ?_
        | (apply Here.norm; (first | dsimp only [Env.putR, argEnv, pure1, newPtr, applyE, hset, List.length_cons, List.length_nil, List.length_append, List.set, List.cons_append, List.nil_append] | rfl); (first | dsimp only [Env.putR, argEnv, pure1, newPtr, applyE, hset, List.length_cons, List.length_nil, List.length_append, List.set, List.cons_append, List.nil_append] | rfl))
        | fail
      rfl
theorem ref3_Bytes (l : List UInt8) (hl : l.length ≤ 1048576) : PureF (C W0) I.tumblerref03_Bytes [.string (bs l)] (.bool (okBytes l)) := by
  have hsz := bs_size l
  have nm := fun c => ref3_Byte (W0 := W0) c
  refine PureF.E (CallP.of_body (C_ok W0) B.tumblerref03_Bytes rfl rfl rfl ?_)
  repeat' first
    | (apply Here.norm; (first | dsimp only [Env.putR, argEnv, pure1, newPtr, applyE, hset, List.length_cons, List.length_nil, List.length_append, List.set, List.cons_append, List.nil_append] | rfl); (first | dsimp only [Env.putR, argEnv, pure1, newPtr, applyE, hset, List.length_cons, List.length_nil, List.length_append, List.set, List.cons_append, List.nil_append] | rfl))
    | fail
  refine loop_I (C_ok W0) (fun i : Nat => i ≤ l.length ∧ okBytes (l.drop i) = okBytes l) (fun i => [(0, .string (bs l)), (3, .int .i64 i)]) (fun _ => []) (fun i => l.length - i) 0
    ⟨Nat.zero_le _, by rw [List.drop_zero]⟩ ⟨_, rfl, RT.of_eq rfl rfl⟩ ?_
  rintro i ⟨g1, g2⟩
  dsimp only
  by_cases hi : i < l.length
  · have nm := nm (byteAt (bs l) (i : Int))
    have ev : okBytes (l.drop i) = (nb (byteAt (bs l) (i : Int)) && okBytes (l.drop (i + 1))) := by
      rw [byteAt_bs hi, List.drop_eq_getElem_cons hi]; rfl
    rw [ev] at g2
    cases hb : nb (byteAt (bs l) (i : Int)) with
    | true =>
      rw [hb] at nm g2
      have w1 : IntKind.i64.wrap ((i : Int) + 1) = ((i + 1 : Nat) : Int) := by rw [wrap_in (by omega)]; omega
      repeat' first
        | refine brP.tD (by omega) ?_
        | refine (nm).call ?_
        | (apply Here.norm; (first | dsimp only [Env.putR, argEnv, pure1, newPtr, applyE, hset, List.length_cons, List.length_nil, List.length_append, List.set, List.cons_append, List.nil_append] | rfl); (first | dsimp only [Env.putR, argEnv, pure1, newPtr, applyE, hset, List.length_cons, List.length_nil, List.length_append, List.set, List.cons_append, List.nil_append] | rfl))
        | refine ⟨InB.mk (by first | decide | omega) (by first | decide | omega), ?_⟩
        | fail
      apply Again.mk (i + 1)
      · exact ⟨by omega, by simpa using g2⟩
      · omega
      refine ⟨_, rfl, RT.of_eq ?_ rfl⟩
      rw [w1]; rfl
    | false =>
      rw [hb] at nm g2
      simp only [Bool.false_and] at g2
      rw [← g2]
      repeat' first
        | refine brP.tD (by omega) ?_
        | refine (nm).call ?_
        | (apply Here.norm; (first | dsimp only [Env.putR, argEnv, pure1, newPtr, applyE, hset, List.length_cons, List.length_nil, List.length_append, List.set, List.cons_append, List.nil_append] | rfl); (first | dsimp only [Env.putR, argEnv, pure1, newPtr, applyE, hset, List.length_cons, List.length_nil, List.length_append, List.set, List.cons_append, List.nil_append] | rfl))
        | refine ⟨InB.mk (by first | decide | omega) (by first | decide | omega), ?_⟩
        | fail
      rfl
  · have e : okBytes l = true := by rw [← g2, List.drop_eq_nil_of_le (by omega)]; rfl
    rw [e]
    repeat' first
      | refine brP.fD (by omega) ?_
      | (apply Here.norm; (first | dsimp only [Env.putR, argEnv, pure1, newPtr, applyE, hset, List.length_cons, List.length_nil, List.length_append, List.set, List.cons_append, List.nil_append] | rfl); (first | dsimp only [Env.putR, argEnv, pure1, newPtr, applyE, hset, List.length_cons, List.length_nil, List.length_append, List.set, List.cons_append, List.nil_append] | rfl))
      | fail
    rfl
/-! Cut -/
def pcV (k : Nat) : List (List UInt8) → Value
  | [] => .slice none 0 0
  | x :: r => .slice (some ⟨k, 0, none⟩) (r.length + 1) (r.length + 1)
def pcB : List (List UInt8) → ABlk
  | [] => .dead
  | x :: r => .cells (pcs (x :: r)) 1 true true Y.string
theorem pcV_snoc (k : Nat) (o : List (List UInt8)) (x : List UInt8) : pcV k (o ++ [x]) = .slice (some ⟨k, 0, none⟩) (o.length + 1) (o.length + 1) := by cases o <;> simp [pcV]
theorem pcB_snoc (o : List (List UInt8)) (x : List UInt8) : pcB (o ++ [x]) = .cells (pcs (o ++ [x])) 1 true true Y.string := by cases o <;> rfl
def cutR (s : List UInt8) (i b : Nat) : List (List UInt8) := if i ≤ s.length then cutA 46 ((s.drop b).take (i - b)) (s.drop i) else []
theorem cutR_dot {s : List UInt8} {i b : Nat} (hb : b ≤ i) (hi : i < s.length) (hc : s[i] = 46) : cutR s i b = (s.drop b).take (i - b) :: cutR s (i + 1) (i + 1) := by
  unfold cutR
  rw [if_pos (by omega), if_pos (by omega), List.drop_eq_getElem_cons hi, hc, cutA, if_pos rfl, Nat.sub_self, List.take_zero]
theorem cutR_on {s : List UInt8} {i b : Nat} (hb : b ≤ i) (hi : i < s.length) (hc : s[i] ≠ 46) : cutR s i b = cutR s (i + 1) b := by
  unfold cutR
  rw [if_pos (by omega), if_pos (by omega), List.drop_eq_getElem_cons hi, cutA, if_neg hc]
  congr 1
  rw [show i + 1 - b = (i - b) + 1 by omega, List.take_add_one, List.getElem?_drop, show b + (i - b) = i by omega, List.getElem?_eq_getElem hi]; rfl
theorem cutR_end {s : List UInt8} {b : Nat} (hb : b ≤ s.length) : cutR s s.length b = (s.drop b).take (s.length - b) :: cutR s (s.length + 1) (s.length + 1) := by
  unfold cutR
  rw [if_pos (Nat.le_refl _), if_neg (by omega), List.drop_of_length_le (Nat.le_refl _)]; rfl
theorem pcs_snoc {o : List (List UInt8)} {n : Nat} {a : ByteArray} {x : List UInt8} (hn : n = o.length) (h1 : a = bs x) :
    List.take (n * 1) (List.drop 0 (pcs o)) ++ [Value.string a] = pcs (o ++ [x]) := by
  subst hn; subst h1
  rw [List.drop_zero, List.take_of_length_le (by simp)]
  unfold pcs
  rw [List.map_append]; rfl
set_option maxHeartbeats 2000000 in
set_option maxRecDepth 20000 in
theorem ref3_Cut (s : List UInt8) (hs : s.length ≤ 1048576) : PureF (C W0) I.tumblerref03_Cut [.string (bs s)] (LV (pcs (cutA 46 [] s)) (cutA 46 [] s).length) := by
  have hsz := bs_size s
  refine PureF.N (CallP.of_body (C_ok W0) B.tumblerref03_Cut rfl rfl rfl ?_)
  repeat' first
    | (apply Here.norm; (first | dsimp only [Env.putR, argEnv, pure1, newPtr, applyE, hset, List.length_cons, List.length_nil, List.length_append, List.set, List.cons_append, List.nil_append] | rfl); (first | dsimp only [Env.putR, argEnv, pure1, newPtr, applyE, hset, List.length_cons, List.length_nil, List.length_append, List.set, List.cons_append, List.nil_append] | rfl))
    | fail
  refine loop_I (C_ok W0) (fun q : Nat × Nat × List (List UInt8) => q.2.1 ≤ q.1 ∧ q.1 ≤ s.length + 1 ∧ q.2.2.length ≤ q.1 ∧ (q.1 = s.length + 1 → q.2.2 ≠ []) ∧ q.2.2 ++ cutR s q.1 q.2.1 = cutA 46 [] s)
    (fun q => [(0, .string (bs s)), (3, pcV 0 q.2.2), (4, .int .i64 q.2.1), (5, .int .i64 q.1)]) (fun q => [pcB q.2.2]) (fun q => s.length + 1 - q.1) (0, 0, [])
    ⟨Nat.le_refl _, by dsimp only; omega, Nat.zero_le _, fun h => by dsimp only at h; omega, by unfold cutR; rw [if_pos (Nat.zero_le _)]; rfl⟩ ⟨_, rfl, RT.trans (.of_eq rfl rfl) .pad⟩ ?_
  rintro ⟨i, b, o⟩ ⟨g1, g2, g3, g4, g5⟩
  dsimp only at g1 g2 g3 g4 g5 ⊢
  by_cases hi : i ≤ s.length
  · have w1 : IntKind.i64.wrap ((i : Int) + 1) = ((i + 1 : Nat) : Int) := by rw [wrap_in (by omega)]; omega
    have e1 : (bs s).extract ((b : Int).toNat) ((i : Int).toNat) = bs ((s.drop b).take (i - b)) := by rw [Int.toNat_natCast, Int.toNat_natCast, bs_extract]
    by_cases hl : i = s.length
    · have pr := cutR_end (s := s) (b := b) (by omega)
      rw [hl] at g5
      rw [pr, ← hl] at g5
      cases o with
      | nil =>
        repeat' first
          | refine brP.tD (by omega) ?_
          | (apply Here.norm; (first | dsimp only [Env.putR, argEnv, pure1, newPtr, applyE, hset, List.length_cons, List.length_nil, List.length_append, List.set, List.cons_append, List.nil_append] | rfl); (first | dsimp only [Env.putR, argEnv, pure1, newPtr, applyE, hset, List.length_cons, List.length_nil, List.length_append, List.set, List.cons_append, List.nil_append] | rfl))
          | refine ⟨SlB.mk (by first | omega | decide) (by first | omega | decide) (by first | omega | decide), ?_⟩
          | refine ⟨trivial, ?_⟩
          | refine ⟨by decide, rfl, by decide, ?_⟩
          | refine .inr ⟨by decide, _, _, _, _, _, rfl, rfl, Fits.mk (by first | exact Nat.le_of_ble_eq_true rfl | omega), ?_⟩
          | refine .inr ⟨by decide, by decide, Room.mk (by decide) (by decide), ?_⟩
          | fail
        apply Again.mk (i + 1, i + 1, [] ++ [(s.drop b).take (i - b)])
        · exact ⟨Nat.le_refl _, by dsimp only; omega, by dsimp only; simp only [List.length_append, List.length_cons, List.length_nil]; omega, fun _ => by simp, by simpa [hl] using g5⟩
        · dsimp only; omega
        refine ⟨_, rfl, ?_⟩
        dsimp only [List.map]
        rw [pcV_snoc, pcB_snoc]
        refine RT.ren [2] rfl rfl ⟨⟨_, rfl, BTo.cells (fun z => z) (.cons (VTo.string e1) .nil), (fun z => by cases z)⟩, trivial⟩ ?_
        all_goals (repeat' first
          | exact LTo.nil
          | exact VTo.slice (by decide)
          | refine LTo.cons ?_ ?_
          | refine VTo.int ?_
          | refine VTo.string ?_
          | (with_reducible rfl)
          | fail)
        all_goals first
          | exact w1
          | rfl
      | cons x r =>
        have hrl : r.length + 1 ≤ i := g3
        repeat' first
          | refine brP.tD (by omega) ?_
          | (apply Here.norm; (first | dsimp only [Env.putR, argEnv, pure1, newPtr, applyE, hset, List.length_cons, List.length_nil, List.length_append, List.set, List.cons_append, List.nil_append] | rfl); (first | dsimp only [Env.putR, argEnv, pure1, newPtr, applyE, hset, List.length_cons, List.length_nil, List.length_append, List.set, List.cons_append, List.nil_append] | rfl))
          | refine ⟨SlB.mk (by first | omega | decide) (by first | omega | decide) (by first | omega | decide), ?_⟩
          | refine ⟨trivial, ?_⟩
          | refine ⟨by decide, rfl, by decide, ?_⟩
          | refine .inr ⟨by decide, _, _, _, _, _, rfl, rfl, Fits.mk (by first | exact Nat.le_of_ble_eq_true rfl | omega), ?_⟩
          | refine .inr ⟨by decide, _, _, _, _, _, rfl, rfl, Room.mk (by omega) (by omega), .inr (.inr ⟨(by omega), rfl, rfl, rfl, (by first | omega | (simp; done) | (simp; omega)), (by omega), rfl, ?_⟩)⟩
          | fail
        apply Again.mk (i + 1, i + 1, (x :: r) ++ [(s.drop b).take (i - b)])
        · exact ⟨Nat.le_refl _, by dsimp only; omega, by dsimp only; simp only [List.length_append, List.length_cons, List.length_nil]; omega, fun _ => by simp, by simpa [hl] using g5⟩
        · dsimp only; omega
        refine ⟨_, rfl, ?_⟩
        dsimp only [List.map]
        rw [pcV_snoc, pcB_snoc]
        refine RT.ren [2] rfl rfl ⟨⟨_, rfl, BTo.cells (fun z => z) (LTo.n (pcs_snoc (x := (s.drop b).take (i - b)) rfl e1)), (fun z => by cases z)⟩, trivial⟩ ?_
        all_goals (repeat' first
          | exact LTo.nil
          | exact VTo.slice (by decide)
          | refine LTo.cons ?_ ?_
          | refine VTo.int ?_
          | refine VTo.string ?_
          | (with_reducible rfl)
          | fail)
        all_goals first
          | exact w1
          | rfl
    · have hlt : i < s.length := by omega
      have eb := byteAt_bs hlt
      by_cases hc : s[i] = 46
      · have e2 : byteAt (bs s) (i : Int) = 46 := by rw [eb, hc]; rfl
        have pr := cutR_dot (s := s) (b := b) g1 hlt hc
        rw [pr] at g5
        cases o with
        | nil =>
          repeat' first
            | refine brP.tD (by omega) ?_
            | refine brP.fD (by omega) ?_
            | (apply Here.norm; (first | dsimp only [Env.putR, argEnv, pure1, newPtr, applyE, hset, List.length_cons, List.length_nil, List.length_append, List.set, List.cons_append, List.nil_append] | rfl); (first | dsimp only [Env.putR, argEnv, pure1, newPtr, applyE, hset, List.length_cons, List.length_nil, List.length_append, List.set, List.cons_append, List.nil_append] | rfl))
            | refine ⟨InB.mk (by first | decide | omega) (by first | decide | omega), ?_⟩
            | refine ⟨SlB.mk (by first | omega | decide) (by first | omega | decide) (by first | omega | decide), ?_⟩
            | refine ⟨trivial, ?_⟩
            | refine ⟨by decide, rfl, by decide, ?_⟩
            | refine .inr ⟨by decide, _, _, _, _, _, rfl, rfl, Fits.mk (by first | exact Nat.le_of_ble_eq_true rfl | omega), ?_⟩
            | refine .inr ⟨by decide, by decide, Room.mk (by decide) (by decide), ?_⟩
            | fail
          apply Again.mk (i + 1, i + 1, [] ++ [(s.drop b).take (i - b)])
          · exact ⟨Nat.le_refl _, by dsimp only; omega, by dsimp only; simp only [List.length_append, List.length_cons, List.length_nil]; omega, fun _ => by simp, by simpa [hl] using g5⟩
          · dsimp only; omega
          refine ⟨_, rfl, ?_⟩
          dsimp only [List.map]
          rw [pcV_snoc, pcB_snoc]
          refine RT.ren [2] rfl rfl ⟨⟨_, rfl, BTo.cells (fun z => z) (.cons (VTo.string e1) .nil), (fun z => by cases z)⟩, trivial⟩ ?_
          all_goals (repeat' first
            | exact LTo.nil
            | exact VTo.slice (by decide)
            | refine LTo.cons ?_ ?_
            | refine VTo.int ?_
            | refine VTo.string ?_
            | (with_reducible rfl)
            | fail)
          all_goals first
            | exact w1
            | rfl
        | cons x r =>
          have hrl : r.length + 1 ≤ i := g3
          repeat' first
            | refine brP.tD (by omega) ?_
            | refine brP.fD (by omega) ?_
            | (apply Here.norm; (first | dsimp only [Env.putR, argEnv, pure1, newPtr, applyE, hset, List.length_cons, List.length_nil, List.length_append, List.set, List.cons_append, List.nil_append] | rfl); (first | dsimp only [Env.putR, argEnv, pure1, newPtr, applyE, hset, List.length_cons, List.length_nil, List.length_append, List.set, List.cons_append, List.nil_append] | rfl))
            | refine ⟨InB.mk (by first | decide | omega) (by first | decide | omega), ?_⟩
            | refine ⟨SlB.mk (by first | omega | decide) (by first | omega | decide) (by first | omega | decide), ?_⟩
            | refine ⟨trivial, ?_⟩
            | refine ⟨by decide, rfl, by decide, ?_⟩
            | refine .inr ⟨by decide, _, _, _, _, _, rfl, rfl, Fits.mk (by first | exact Nat.le_of_ble_eq_true rfl | omega), ?_⟩
            | refine .inr ⟨by decide, _, _, _, _, _, rfl, rfl, Room.mk (by omega) (by omega), .inr (.inr ⟨(by omega), rfl, rfl, rfl, (by first | omega | (simp; done) | (simp; omega)), (by omega), rfl, ?_⟩)⟩
            | fail
          apply Again.mk (i + 1, i + 1, (x :: r) ++ [(s.drop b).take (i - b)])
          · exact ⟨Nat.le_refl _, by dsimp only; omega, by dsimp only; simp only [List.length_append, List.length_cons, List.length_nil]; omega, fun _ => by simp, by simpa [hl] using g5⟩
          · dsimp only; omega
          refine ⟨_, rfl, ?_⟩
          dsimp only [List.map]
          rw [pcV_snoc, pcB_snoc]
          refine RT.ren [2] rfl rfl ⟨⟨_, rfl, BTo.cells (fun z => z) (LTo.n (pcs_snoc (x := (s.drop b).take (i - b)) rfl e1)), (fun z => by cases z)⟩, trivial⟩ ?_
          all_goals (repeat' first
            | exact LTo.nil
            | exact VTo.slice (by decide)
            | refine LTo.cons ?_ ?_
            | refine VTo.int ?_
            | refine VTo.string ?_
            | (with_reducible rfl)
            | fail)
          all_goals first
            | exact w1
            | rfl
      · have e2 := u8_ne hc
        rw [← eb, show ((46 : UInt8).toNat : Int) = 46 from rfl] at e2
        rw [cutR_on g1 hlt hc] at g5
        repeat' first
          | refine brP.tD (by omega) ?_
          | refine brP.fD (by omega) ?_
          | (apply Here.norm; (first | dsimp only [Env.putR, argEnv, pure1, newPtr, applyE, hset, List.length_cons, List.length_nil, List.length_append, List.set, List.cons_append, List.nil_append] | rfl); (first | dsimp only [Env.putR, argEnv, pure1, newPtr, applyE, hset, List.length_cons, List.length_nil, List.length_append, List.set, List.cons_append, List.nil_append] | rfl))
          | refine ⟨InB.mk (by first | decide | omega) (by first | decide | omega), ?_⟩
          | fail
        apply Again.mk (i + 1, b, o)
        · exact ⟨by dsimp only; omega, by dsimp only; omega, by dsimp only; omega, fun h => by dsimp only at h; omega, g5⟩
        · dsimp only; omega
        refine ⟨_, rfl, RT.of_eq ?_ rfl⟩
        rw [w1]; rfl
  · have hi1 : i = s.length + 1 := by omega
    have ho := g4 hi1
    rw [show cutR s i b = [] from if_neg hi, List.append_nil] at g5
    rw [← g5]
    cases o with
    | nil => exact absurd rfl ho
    | cons x r =>
      repeat' first
        | refine brP.fD (by omega) ?_
        | (apply Here.norm; (first | dsimp only [Env.putR, argEnv, pure1, newPtr, applyE, hset, List.length_cons, List.length_nil, List.length_append, List.set, List.cons_append, List.nil_append] | rfl); (first | dsimp only [Env.putR, argEnv, pure1, newPtr, applyE, hset, List.length_cons, List.length_nil, List.length_append, List.set, List.cons_append, List.nil_append] | rfl))
        | fail
      exact RT.z 0 rfl (VTo.fz' (by simp) (by rw [List.drop_zero, List.take_of_length_le (by simp)]))
set_option maxHeartbeats 2000000 in
theorem ref3_Valid (s : List UInt8) (hs : s.length ≤ 1048576) : PureF (C W0) I.tumblerref03_Valid [.string (bs s)] (.bool (okName s)) := by
  have hsz := bs_size s
  have ct := ref3_Cut (W0 := W0) s hs
  have cl := cutA_len 46 s []
  have cs := cutA_small 46 s []
  refine PureF.E (CallP.of_body (C_ok W0) B.tumblerref03_Valid rfl rfl rfl ?_)
  unfold okName
  by_cases h1 : s.length ≤ 200
  · rw [decide_eq_true h1, Bool.true_and]
    have by1 := fun (p : List UInt8) (hp : p ∈ cutA 46 [] s) => ref3_Bytes (W0 := W0) p (by have := cs p hp; simp at this; omega)
    generalize cutA 46 [] s = xs at *
    repeat' first
      | refine brP.fD (by omega) ?_
      | refine (ct).call ?_
      | (apply Here.norm; (first | dsimp only [Env.putR, argEnv, pure1, newPtr, applyE, hset, List.length_cons, List.length_nil, List.length_append, List.set, List.cons_append, List.nil_append] | rfl); (first | dsimp only [Env.putR, argEnv, pure1, newPtr, applyE, hset, List.length_cons, List.length_nil, List.length_append, List.set, List.cons_append, List.nil_append] | rfl))
      | fail
    refine loop_I (C_ok W0) (fun i : Nat => i ≤ xs.length ∧ (xs.drop i).all okPiece = xs.all okPiece) (fun i => [(3, LV (pcs xs) xs.length), (4, .int .i64 i)]) (fun _ => []) (fun i => xs.length - i) 0
      ⟨Nat.zero_le _, by rw [List.drop_zero]⟩ ⟨_, rfl, RT.of_eq rfl rfl⟩ ?_
    rintro i ⟨g1, g2⟩
    dsimp only
    by_cases hi : i < xs.length
    · have hv : (pcs xs)[((i : Int).toNat) * 1]? = some (.string (bs xs[i])) := by simp [hi]
      have w1 : IntKind.i64.wrap ((i : Int) + 1) = ((i + 1 : Nat) : Int) := by rw [wrap_in (by omega)]; omega
      rw [List.drop_eq_getElem_cons hi, List.all_cons] at g2
      have bp := by1 xs[i] (List.getElem_mem hi)
      have op : okPiece xs[i] = (!xs[i].isEmpty && okBytes xs[i]) := rfl
      rw [op] at g2
      clear op
      generalize xs[i] = p at *
      by_cases he : p = []
      · subst he
        rw [List.isEmpty_nil, Bool.not_true, Bool.false_and, Bool.false_and] at g2
        rw [← g2, Bool.and_false]
        have be : bs [] = ⟨#[]⟩ := rfl
        repeat' first
          | refine brP.tD (by omega) ?_
          | refine ⟨_, hv, ?_⟩
          | (apply Here.norm; (first | dsimp only [Env.putR, argEnv, pure1, newPtr, applyE, hset, List.length_cons, List.length_nil, List.length_append, List.set, List.cons_append, List.nil_append] | rfl); (first | dsimp only [Env.putR, argEnv, pure1, newPtr, applyE, hset, List.length_cons, List.length_nil, List.length_append, List.set, List.cons_append, List.nil_append] | rfl))
          | refine ⟨InB.mk (by first | decide | omega) (by first | decide | omega), ?_⟩
          | fail
        rfl
      · have be : ¬ bs p = ⟨#[]⟩ := fun h => he (bs_nil_iff.mp h)
        rw [show p.isEmpty = false by cases p with | nil => exact absurd rfl he | cons a b => rfl, Bool.not_false, Bool.true_and] at g2
        cases hb : okBytes p with
        | true =>
          rw [hb] at bp g2
          rw [Bool.true_and] at g2
          repeat' first
            | refine brP.tD (by omega) ?_
            | refine brP.fD (by omega) ?_
            | refine ⟨_, hv, ?_⟩
            | refine (bp).call ?_
            | (apply Here.norm; (first | dsimp only [Env.putR, argEnv, pure1, newPtr, applyE, hset, List.length_cons, List.length_nil, List.length_append, List.set, List.cons_append, List.nil_append] | rfl); (first | dsimp only [Env.putR, argEnv, pure1, newPtr, applyE, hset, List.length_cons, List.length_nil, List.length_append, List.set, List.cons_append, List.nil_append] | rfl))
            | refine ⟨InB.mk (by first | decide | omega) (by first | decide | omega), ?_⟩
            | fail
          apply Again.mk (i + 1)
          · exact ⟨by omega, g2⟩
          · omega
          refine ⟨_, rfl, RT.of_eq ?_ rfl⟩
          rw [w1]; rfl
        | false =>
          rw [hb] at bp g2
          rw [Bool.false_and] at g2
          rw [← g2, Bool.and_false]
          repeat' first
            | refine brP.tD (by omega) ?_
            | refine brP.fD (by omega) ?_
            | refine ⟨_, hv, ?_⟩
            | refine (bp).call ?_
            | (apply Here.norm; (first | dsimp only [Env.putR, argEnv, pure1, newPtr, applyE, hset, List.length_cons, List.length_nil, List.length_append, List.set, List.cons_append, List.nil_append] | rfl); (first | dsimp only [Env.putR, argEnv, pure1, newPtr, applyE, hset, List.length_cons, List.length_nil, List.length_append, List.set, List.cons_append, List.nil_append] | rfl))
            | refine ⟨InB.mk (by first | decide | omega) (by first | decide | omega), ?_⟩
            | fail
          rfl
    · rw [List.drop_eq_nil_of_le (by omega)] at g2
      rw [← g2, List.all_nil, Bool.and_true]
      repeat' first
        | refine brP.fD (by omega) ?_
        | (apply Here.norm; (first | dsimp only [Env.putR, argEnv, pure1, newPtr, applyE, hset, List.length_cons, List.length_nil, List.length_append, List.set, List.cons_append, List.nil_append] | rfl); (first | dsimp only [Env.putR, argEnv, pure1, newPtr, applyE, hset, List.length_cons, List.length_nil, List.length_append, List.set, List.cons_append, List.nil_append] | rfl))
        | fail
      exact congrArg Value.bool (decide_eq_decide.mpr (by omega))
  · rw [decide_eq_false h1, Bool.false_and, Bool.false_and]
    repeat' first
      | refine brP.tD (by omega) ?_
      | (apply Here.norm; (first | dsimp only [Env.putR, argEnv, pure1, newPtr, applyE, hset, List.length_cons, List.length_nil, List.length_append, List.set, List.cons_append, List.nil_append] | rfl); (first | dsimp only [Env.putR, argEnv, pure1, newPtr, applyE, hset, List.length_cons, List.length_nil, List.length_append, List.set, List.cons_append, List.nil_append] | rfl))
      | fail
    rfl
theorem ref4_Member (l : List UInt8) (hl : l.length ≤ 1048576) : PureF (C W0) I.tumblerref04_Member [.string (bs l)] (.bool (memL l)) := by
  have hsz := bs_size l
  refine PureF.E (CallP.of_body (C_ok W0) B.tumblerref04_Member rfl rfl rfl ?_)
  by_cases q1 : 1 ≤ l.length
  · by_cases q2 : l.length ≤ 100
    · have em : memL l = l.all (fun c => memB c.toNat) := by unfold memL; rw [decide_eq_true q1, decide_eq_true q2]; simp
      rw [em]
      repeat' first
        | refine brP.fD (by omega) ?_
        | (apply Here.norm; (first | dsimp only [Env.putR, argEnv, pure1, newPtr, applyE, hset, List.length_cons, List.length_nil, List.length_append, List.set, List.cons_append, List.nil_append] | rfl); (first | dsimp only [Env.putR, argEnv, pure1, newPtr, applyE, hset, List.length_cons, List.length_nil, List.length_append, List.set, List.cons_append, List.nil_append] | rfl))
        | fail
      refine loop_I (C_ok W0) (fun i : Nat => i ≤ l.length ∧ (l.drop i).all (fun c => memB c.toNat) = l.all (fun c => memB c.toNat)) (fun i => [(0, .string (bs l)), (3, .int .i64 i)]) (fun _ => []) (fun i => l.length - i) 0
        ⟨Nat.zero_le _, by rw [List.drop_zero]⟩ ⟨_, rfl, RT.of_eq rfl rfl⟩ ?_
      rintro i ⟨g1, g2⟩
      dsimp only
      by_cases hi : i < l.length
      · have eb := byteAt_bs hi
        rw [List.drop_eq_getElem_cons hi, List.all_cons] at g2
        cases hb : memB ((l[i]'hi).toNat : Int) with
        | true =>
          rw [hb, Bool.true_and] at g2
          unfold memB at hb
          simp only [Bool.not_eq_true', Bool.or_eq_false_iff, decide_eq_false_iff_not] at hb
          obtain ⟨⟨h1, h2⟩, h3⟩ := hb
          have w1 : IntKind.i64.wrap ((i : Int) + 1) = ((i + 1 : Nat) : Int) := by rw [wrap_in (by omega)]; omega
          repeat' first
            | refine brP.tD (by omega) ?_
            | refine brP.fD (by omega) ?_
            | (apply Here.norm; (first | dsimp only [Env.putR, argEnv, pure1, newPtr, applyE, hset, List.length_cons, List.length_nil, List.length_append, List.set, List.cons_append, List.nil_append] | rfl); (first | dsimp only [Env.putR, argEnv, pure1, newPtr, applyE, hset, List.length_cons, List.length_nil, List.length_append, List.set, List.cons_append, List.nil_append] | rfl))
            | refine ⟨InB.mk (by first | decide | omega) (by first | decide | omega), ?_⟩
            | fail
          apply Again.mk (i + 1)
          · exact ⟨by omega, g2⟩
          · omega
          refine ⟨_, rfl, RT.of_eq ?_ rfl⟩
          rw [w1]; rfl
        | false =>
          rw [hb, Bool.false_and] at g2
          rw [← g2]
          unfold memB at hb
          simp only [Bool.not_eq_false', Bool.or_eq_true, decide_eq_true_eq] at hb
          repeat' first
            | refine brP.tD (by omega) ?_
            | (apply Here.norm; (first | dsimp only [Env.putR, argEnv, pure1, newPtr, applyE, hset, List.length_cons, List.length_nil, List.length_append, List.set, List.cons_append, List.nil_append] | rfl); (first | dsimp only [Env.putR, argEnv, pure1, newPtr, applyE, hset, List.length_cons, List.length_nil, List.length_append, List.set, List.cons_append, List.nil_append] | rfl))
            | refine brP.introD (fun h => ?_) (fun h => ?_)
            | refine ⟨InB.mk (by first | decide | omega) (by first | decide | omega), ?_⟩
            | fail
          all_goals first
            | rfl
            | (exfalso; omega)
      · rw [List.drop_eq_nil_of_le (by omega)] at g2
        rw [← g2]
        repeat' first
          | refine brP.fD (by omega) ?_
          | (apply Here.norm; (first | dsimp only [Env.putR, argEnv, pure1, newPtr, applyE, hset, List.length_cons, List.length_nil, List.length_append, List.set, List.cons_append, List.nil_append] | rfl); (first | dsimp only [Env.putR, argEnv, pure1, newPtr, applyE, hset, List.length_cons, List.length_nil, List.length_append, List.set, List.cons_append, List.nil_append] | rfl))
          | fail
        rfl
    · have em : memL l = false := by unfold memL; rw [decide_eq_false q2]; simp
      rw [em]
      repeat' first
        | refine brP.tD (by omega) ?_
        | refine brP.fD (by omega) ?_
        | (apply Here.norm; (first | dsimp only [Env.putR, argEnv, pure1, newPtr, applyE, hset, List.length_cons, List.length_nil, List.length_append, List.set, List.cons_append, List.nil_append] | rfl); (first | dsimp only [Env.putR, argEnv, pure1, newPtr, applyE, hset, List.length_cons, List.length_nil, List.length_append, List.set, List.cons_append, List.nil_append] | rfl))
        | fail
      rfl
  · have em : memL l = false := by unfold memL; rw [decide_eq_false q1]; simp
    rw [em]
    repeat' first
      | refine brP.tD (by omega) ?_
      | (apply Here.norm; (first | dsimp only [Env.putR, argEnv, pure1, newPtr, applyE, hset, List.length_cons, List.length_nil, List.length_append, List.set, List.cons_append, List.nil_append] | rfl); (first | dsimp only [Env.putR, argEnv, pure1, newPtr, applyE, hset, List.length_cons, List.length_nil, List.length_append, List.set, List.cons_append, List.nil_append] | rfl))
      | fail
    rfl
end Go.Proofs.YtioahngbfdfcaaaDoor
