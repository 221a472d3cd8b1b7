import Derived.Test.YtioahngbfdfcaaaDoorKLf
set_option linter.unusedVariables false
set_option linter.unusedSimpArgs false
namespace Go.Proofs.YtioahngbfdfcaaaDoor
open Go Go.Den Go.RowKit
variable {W0 : World}
/-! tumblerref04: Colon, Parts -/
theorem upto_app {b : UInt8} {t : List UInt8} : ∀ {a : List UInt8}, b ∉ a → upto b (a ++ b :: t) = a
  | [], _ => by simp [upto]
  | c :: a, h => by
    have h1 : c ≠ b := fun e => h (by simp [e])
    have := upto_app (t := t) (a := a) fun e => h (List.mem_cons_of_mem _ e)
    unfold upto at this ⊢
    simpa [h1] using this
theorem ref_Colon (s : List UInt8) (hs : s.length ≤ 1048576) : PureF (C W0) I.tumblerref04_Colon [.string (bs s)] (.int .i64 (if (58 : UInt8) ∈ s then ((upto 58 s).length : Int) else -1)) := by
  have hsz := bs_size s
  refine PureF.E (CallP.of_body (C_ok W0) B.tumblerref04_Colon rfl rfl rfl ?_)
  repeat' first
    | (apply Here.norm; (first | dsimp only [Env.putR, argEnv, pure1, newPtr, applyE, hset, List.length_cons, List.length_nil, List.length_append, List.set, List.cons_append, List.nil_append] | rfl); (first | dsimp only [Env.putR, argEnv, pure1, newPtr, applyE, hset, List.length_cons, List.length_nil, List.length_append, List.set, List.cons_append, List.nil_append] | rfl))
    | fail
  refine loop_I (C_ok W0) (fun i : Nat => i ≤ s.length ∧ (58 : UInt8) ∉ s.take i) (fun i => [(0, .string (bs s)), (3, .int .i64 i)]) (fun _ => []) (fun i => s.length - i) 0
    ⟨Nat.zero_le _, by simp⟩ ⟨_, rfl, RT.of_eq rfl rfl⟩ ?_
  rintro i ⟨g1, g2⟩
  dsimp only
  by_cases hi : i < s.length
  · have eb := byteAt_bs hi
    by_cases hc : s[i] = 58
    · have e2 : byteAt (bs s) (i : Int) = 58 := by rw [eb, hc]; rfl
      have hm : (58 : UInt8) ∈ s := by rw [← hc]; exact List.getElem_mem hi
      have hl : (upto 58 s).length = i := by
        have e3 : s = s.take i ++ 58 :: s.drop (i + 1) := by
          conv => lhs; rw [← List.take_append_drop i s, List.drop_eq_getElem_cons hi, hc]
        have h4 : upto 58 (s.take i ++ 58 :: s.drop (i + 1)) = s.take i := by
          exact upto_app g2
        rw [e3, h4, List.length_take]; omega
      rw [if_pos hm, hl]
      repeat' first
        | refine brP.tD (by omega) ?_
        | (apply Here.norm; (first | dsimp only [Env.putR, argEnv, pure1, newPtr, applyE, hset, List.length_cons, List.length_nil, List.length_append, List.set, List.cons_append, List.nil_append] | rfl); (first | dsimp only [Env.putR, argEnv, pure1, newPtr, applyE, hset, List.length_cons, List.length_nil, List.length_append, List.set, List.cons_append, List.nil_append] | rfl))
        | refine ⟨InB.mk (by first | decide | omega) (by first | decide | omega), ?_⟩
        | fail
      rfl
    · have e2 := u8_ne hc
      rw [← eb, show ((58 : UInt8).toNat : Int) = 58 from rfl] at e2
      have w1 : IntKind.i64.wrap ((i : Int) + 1) = ((i + 1 : Nat) : Int) := by rw [wrap_in (by omega)]; omega
      repeat' first
        | refine brP.tD (by omega) ?_
        | refine brP.fD (by omega) ?_
        | (apply Here.norm; (first | dsimp only [Env.putR, argEnv, pure1, newPtr, applyE, hset, List.length_cons, List.length_nil, List.length_append, List.set, List.cons_append, List.nil_append] | rfl); (first | dsimp only [Env.putR, argEnv, pure1, newPtr, applyE, hset, List.length_cons, List.length_nil, List.length_append, List.set, List.cons_append, List.nil_append] | rfl))
        | refine ⟨InB.mk (by first | decide | omega) (by first | decide | omega), ?_⟩
        | fail
      apply Again.mk (i + 1)
      · refine ⟨by omega, ?_⟩
        rw [List.take_add_one, List.getElem?_eq_getElem hi]
        simp only [Option.toList_some, List.mem_append, List.mem_singleton, not_or]
        exact ⟨g2, fun e => hc e.symm⟩
      · omega
      refine ⟨_, rfl, RT.of_eq ?_ rfl⟩
      rw [w1]; rfl
  · rw [List.take_of_length_le (by omega)] at g2
    rw [if_neg g2]
    repeat' first
      | refine brP.fD (by omega) ?_
      | (apply Here.norm; (first | dsimp only [Env.putR, argEnv, pure1, newPtr, applyE, hset, List.length_cons, List.length_nil, List.length_append, List.set, List.cons_append, List.nil_append] | rfl); (first | dsimp only [Env.putR, argEnv, pure1, newPtr, applyE, hset, List.length_cons, List.length_nil, List.length_append, List.set, List.cons_append, List.nil_append] | rfl))
      | fail
    rfl
/-- Pieces with their places. -/
def prtF : Nat → List (List UInt8) → List (List UInt8 × Nat)
  | _, [] => []
  | k, p :: r => (p, k) :: prtF (k + p.length + 1) r
def prtC (ps : List (List UInt8 × Nat)) : List Value := ps.flatMap fun p => [.string (bs p.1), .int .i64 p.2]
theorem prtC_len : ∀ ps : List (List UInt8 × Nat), (prtC ps).length = ps.length * 2
  | [] => rfl
  | p :: r => by have := prtC_len r; unfold prtC at this ⊢; simp only [List.flatMap_cons, List.length_append, this, List.length_cons, List.length_nil]; omega
theorem prtF_len : ∀ (k : Nat) (xs : List (List UInt8)), (prtF k xs).length = xs.length
  | _, [] => rfl
  | k, p :: r => by simp [prtF, prtF_len]
instance {ps : List (List UInt8 × Nat)} : NFs (prtC ps) := ⟨fun u h => by
  obtain ⟨p, _, hp⟩ := List.mem_flatMap.mp h
  simp at hp
  rcases hp with rfl | rfl
  · exact .string _
  · exact .int _ _⟩
def ptV (k : Nat) : List (List UInt8 × Nat) → Value
  | [] => .slice none 0 0
  | x :: r => .slice (some ⟨k, 0, none⟩) (r.length + 1) (r.length + 1)
def ptB : List (List UInt8 × Nat) → ABlk
  | [] => .dead
  | x :: r => .cells (prtC (x :: r)) 2 true true Y.tumblerref04_Part
theorem ptV_snoc (k : Nat) (o : List (List UInt8 × Nat)) (x : List UInt8 × Nat) : ptV k (o ++ [x]) = .slice (some ⟨k, 0, none⟩) (o.length + 1) (o.length + 1) := by cases o <;> simp [ptV]
theorem ptB_snoc (o : List (List UInt8 × Nat)) (x : List UInt8 × Nat) : ptB (o ++ [x]) = .cells (prtC (o ++ [x])) 2 true true Y.tumblerref04_Part := by cases o <;> rfl
def prtR (s : List UInt8) (i b : Nat) : List (List UInt8 × Nat) := if i ≤ s.length then prtF b (cutA 124 ((s.drop b).take (i - b)) (s.drop i)) else []
theorem prtR_bar {s : List UInt8} {i b : Nat} (hb : b ≤ i) (hi : i < s.length) (hc : s[i] = 124) : prtR s i b = ((s.drop b).take (i - b), b) :: prtR s (i + 1) (i + 1) := by
  unfold prtR
  rw [if_pos (by omega), if_pos (by omega), List.drop_eq_getElem_cons hi, hc, cutA, if_pos rfl, prtF, List.length_take, List.length_drop, Nat.sub_self, List.take_zero, show b + min (i - b) (s.length - b) + 1 = i + 1 by omega]
theorem prtR_on {s : List UInt8} {i b : Nat} (hb : b ≤ i) (hi : i < s.length) (hc : s[i] ≠ 124) : prtR s i b = prtR s (i + 1) b := by
  unfold prtR
  rw [if_pos (by omega), if_pos (by omega), List.drop_eq_getElem_cons hi, cutA, if_neg hc]
  congr 2
  rw [show i + 1 - b = (i - b) + 1 by omega, List.take_add_one, List.getElem?_drop, show b + (i - b) = i by omega, List.getElem?_eq_getElem hi]; rfl
theorem prtR_end {s : List UInt8} {b : Nat} (hb : b ≤ s.length) : prtR s s.length b = ((s.drop b).take (s.length - b), b) :: prtR s (s.length + 1) (s.length + 1) := by
  unfold prtR
  rw [if_pos (Nat.le_refl _), if_neg (by omega), List.drop_of_length_le (Nat.le_refl _)]; rfl
theorem prt_cells {o : List (List UInt8 × Nat)} {n : Nat} {a : ByteArray} {z : Int} {x : List UInt8 × Nat} (hn : n = o.length) (h1 : a = bs x.1) (h2 : z = (x.2 : Int)) :
    List.take (n * 2) (List.drop 0 (prtC o)) ++ [Value.string a, Value.int .i64 z] = prtC (o ++ [x]) := by
  subst hn; subst h1; subst h2
  rw [List.drop_zero, List.take_of_length_le (by rw [prtC_len]; exact Nat.le_refl _)]
  unfold prtC
  rw [List.flatMap_append]; simp
set_option maxHeartbeats 2000000 in
set_option maxRecDepth 20000 in
theorem ref_Parts (s : List UInt8) (hs : s.length ≤ 1048576) (k : Nat) (hk : k ≤ s.length) :
    PureF (C W0) I.tumblerref04_Parts [.string (bs s), .int .i64 k] (LV (prtC (prtF k (cutA 124 [] (s.drop k)))) (prtF k (cutA 124 [] (s.drop k))).length) := by
  have hsz := bs_size s
  refine PureF.N (CallP.of_body (C_ok W0) B.tumblerref04_Parts rfl rfl rfl ?_)
  repeat' first
    | (apply Here.norm; (first | dsimp only [Env.putR, argEnv, pure1, newPtr, applyE, hset, List.length_cons, List.length_nil, List.length_append, List.set, List.cons_append, List.nil_append] | rfl); (first | dsimp only [Env.putR, argEnv, pure1, newPtr, applyE, hset, List.length_cons, List.length_nil, List.length_append, List.set, List.cons_append, List.nil_append] | rfl))
    | fail
  refine loop_I (C_ok W0) (fun q : Nat × Nat × List (List UInt8 × Nat) => q.2.1 ≤ q.1 ∧ q.1 ≤ s.length + 1 ∧ q.2.2.length ≤ q.1 ∧ (q.1 = s.length + 1 → q.2.2 ≠ []) ∧ q.2.2 ++ prtR s q.1 q.2.1 = prtF k (cutA 124 [] (s.drop k)))
    (fun q => [(0, .string (bs s)), (5, ptV 0 q.2.2), (6, .int .i64 q.2.1), (7, .int .i64 q.1)]) (fun q => [ptB q.2.2]) (fun q => s.length + 1 - q.1) (k, k, [])
    ⟨Nat.le_refl _, by dsimp only; omega, Nat.zero_le _, fun h => by dsimp only at h; omega, by unfold prtR; rw [if_pos hk, Nat.sub_self, List.take_zero]; rfl⟩ ⟨_, rfl, RT.trans (.of_eq rfl rfl) .pad⟩ ?_
  rintro ⟨i, b, o⟩ ⟨g1, g2, g3, g4, g5⟩
  dsimp only at g1 g2 g3 g4 g5 ⊢
  by_cases hi : i ≤ s.length
  · have w1 : IntKind.i64.wrap ((i : Int) + 1) = ((i + 1 : Nat) : Int) := by rw [wrap_in (by omega)]; omega
    have e1 : (bs s).extract ((b : Int).toNat) ((i : Int).toNat) = bs ((s.drop b).take (i - b)) := by rw [Int.toNat_natCast, Int.toNat_natCast, bs_extract]
    by_cases hl : i = s.length
    · have pr := prtR_end (s := s) (b := b) (by omega)
      rw [hl] at g5
      rw [pr, ← hl] at g5
      cases o with
      | nil =>
        repeat' first
          | refine brP.tD (by omega) ?_
          | (apply Here.norm; (first | dsimp only [Env.putR, argEnv, pure1, newPtr, applyE, hset, List.length_cons, List.length_nil, List.length_append, List.set, List.cons_append, List.nil_append] | rfl); (first | dsimp only [Env.putR, argEnv, pure1, newPtr, applyE, hset, List.length_cons, List.length_nil, List.length_append, List.set, List.cons_append, List.nil_append] | rfl))
          | refine ⟨SlB.mk (by first | omega | decide) (by first | omega | decide) (by first | omega | decide), ?_⟩
          | refine ⟨trivial, ?_⟩
          | refine ⟨by decide, rfl, by decide, ?_⟩
          | refine .inr ⟨by decide, _, _, _, _, _, rfl, rfl, Fits.mk (by first | exact Nat.le_of_ble_eq_true rfl | omega), ?_⟩
          | refine .inr ⟨by decide, by decide, Room.mk (by decide) (by decide), ?_⟩
          | fail
        apply Again.mk (i + 1, i + 1, [] ++ [((s.drop b).take (i - b), b)])
        · exact ⟨Nat.le_refl _, by dsimp only; omega, by dsimp only; simp only [List.length_append, List.length_cons, List.length_nil]; omega, fun _ => by simp, by simpa [hl] using g5⟩
        · dsimp only; omega
        refine ⟨_, rfl, ?_⟩
        dsimp only [List.map]
        rw [ptV_snoc, ptB_snoc]
        refine RT.ren [2] rfl rfl ⟨⟨_, rfl, BTo.cells (fun z => z) (.cons (VTo.string e1) (.cons (VTo.int rfl) .nil)), (fun z => by cases z)⟩, trivial⟩ ?_
        all_goals (repeat' first
          | exact LTo.nil
          | exact VTo.slice (by decide)
          | refine LTo.cons ?_ ?_
          | refine VTo.int ?_
          | refine VTo.string ?_
          | (with_reducible rfl)
          | fail)
        all_goals first
          | exact w1
          | rfl
      | cons x r =>
        have hol : (prtC (x :: r)).length = (r.length + 1) * 2 := by rw [prtC_len]; rfl
        have hrl : r.length + 1 ≤ i := g3
        repeat' first
          | refine brP.tD (by omega) ?_
          | (apply Here.norm; (first | dsimp only [Env.putR, argEnv, pure1, newPtr, applyE, hset, List.length_cons, List.length_nil, List.length_append, List.set, List.cons_append, List.nil_append] | rfl); (first | dsimp only [Env.putR, argEnv, pure1, newPtr, applyE, hset, List.length_cons, List.length_nil, List.length_append, List.set, List.cons_append, List.nil_append] | rfl))
          | refine ⟨SlB.mk (by first | omega | decide) (by first | omega | decide) (by first | omega | decide), ?_⟩
          | refine ⟨trivial, ?_⟩
          | refine ⟨by decide, rfl, by decide, ?_⟩
          | refine .inr ⟨by decide, _, _, _, _, _, rfl, rfl, Fits.mk (by first | exact Nat.le_of_ble_eq_true rfl | omega), ?_⟩
          | refine .inr ⟨by decide, _, _, _, _, _, rfl, rfl, Room.mk (by omega) (by omega), .inr (.inr ⟨(by omega), rfl, rfl, rfl, (by first | omega | (simp; done) | (simp; omega)), (by omega), rfl, ?_⟩)⟩
          | fail
        apply Again.mk (i + 1, i + 1, (x :: r) ++ [((s.drop b).take (i - b), b)])
        · exact ⟨Nat.le_refl _, by dsimp only; omega, by dsimp only; simp only [List.length_append, List.length_cons, List.length_nil]; omega, fun _ => by simp, by simpa [hl] using g5⟩
        · dsimp only; omega
        refine ⟨_, rfl, ?_⟩
        dsimp only [List.map]
        rw [ptV_snoc, ptB_snoc]
        refine RT.ren [2] rfl rfl ⟨⟨_, rfl, BTo.cells (fun z => z) (LTo.n (prt_cells (x := ((s.drop b).take (i - b), b)) rfl e1 rfl)), (fun z => by cases z)⟩, trivial⟩ ?_
        all_goals (repeat' first
          | exact LTo.nil
          | exact VTo.slice (by decide)
          | refine LTo.cons ?_ ?_
          | refine VTo.int ?_
          | refine VTo.string ?_
          | (with_reducible rfl)
          | fail)
        all_goals first
          | exact w1
          | rfl
    · have hlt : i < s.length := by omega
      have eb := byteAt_bs hlt
      by_cases hc : s[i] = 124
      · have e2 : byteAt (bs s) (i : Int) = 124 := by rw [eb, hc]; rfl
        have pr := prtR_bar (s := s) (b := b) g1 hlt hc
        rw [pr] at g5
        cases o with
        | nil =>
          repeat' first
            | refine brP.tD (by omega) ?_
            | refine brP.fD (by omega) ?_
            | (apply Here.norm; (first | dsimp only [Env.putR, argEnv, pure1, newPtr, applyE, hset, List.length_cons, List.length_nil, List.length_append, List.set, List.cons_append, List.nil_append] | rfl); (first | dsimp only [Env.putR, argEnv, pure1, newPtr, applyE, hset, List.length_cons, List.length_nil, List.length_append, List.set, List.cons_append, List.nil_append] | rfl))
            | refine ⟨InB.mk (by first | decide | omega) (by first | decide | omega), ?_⟩
            | refine ⟨SlB.mk (by first | omega | decide) (by first | omega | decide) (by first | omega | decide), ?_⟩
            | refine ⟨trivial, ?_⟩
            | refine ⟨by decide, rfl, by decide, ?_⟩
            | refine .inr ⟨by decide, _, _, _, _, _, rfl, rfl, Fits.mk (by first | exact Nat.le_of_ble_eq_true rfl | omega), ?_⟩
            | refine .inr ⟨by decide, by decide, Room.mk (by decide) (by decide), ?_⟩
            | fail
          apply Again.mk (i + 1, i + 1, [] ++ [((s.drop b).take (i - b), b)])
          · exact ⟨Nat.le_refl _, by dsimp only; omega, by dsimp only; simp only [List.length_append, List.length_cons, List.length_nil]; omega, fun _ => by simp, by simpa [hl] using g5⟩
          · dsimp only; omega
          refine ⟨_, rfl, ?_⟩
          dsimp only [List.map]
          rw [ptV_snoc, ptB_snoc]
          refine RT.ren [2] rfl rfl ⟨⟨_, rfl, BTo.cells (fun z => z) (.cons (VTo.string e1) (.cons (VTo.int rfl) .nil)), (fun z => by cases z)⟩, trivial⟩ ?_
          all_goals (repeat' first
            | exact LTo.nil
            | exact VTo.slice (by decide)
            | refine LTo.cons ?_ ?_
            | refine VTo.int ?_
            | refine VTo.string ?_
            | (with_reducible rfl)
            | fail)
          all_goals first
            | exact w1
            | rfl
        | cons x r =>
          have hol : (prtC (x :: r)).length = (r.length + 1) * 2 := by rw [prtC_len]; rfl
          have hrl : r.length + 1 ≤ i := g3
          repeat' first
            | refine brP.tD (by omega) ?_
            | refine brP.fD (by omega) ?_
            | (apply Here.norm; (first | dsimp only [Env.putR, argEnv, pure1, newPtr, applyE, hset, List.length_cons, List.length_nil, List.length_append, List.set, List.cons_append, List.nil_append] | rfl); (first | dsimp only [Env.putR, argEnv, pure1, newPtr, applyE, hset, List.length_cons, List.length_nil, List.length_append, List.set, List.cons_append, List.nil_append] | rfl))
            | refine ⟨InB.mk (by first | decide | omega) (by first | decide | omega), ?_⟩
            | refine ⟨SlB.mk (by first | omega | decide) (by first | omega | decide) (by first | omega | decide), ?_⟩
            | refine ⟨trivial, ?_⟩
            | refine ⟨by decide, rfl, by decide, ?_⟩
            | refine .inr ⟨by decide, _, _, _, _, _, rfl, rfl, Fits.mk (by first | exact Nat.le_of_ble_eq_true rfl | omega), ?_⟩
            | refine .inr ⟨by decide, _, _, _, _, _, rfl, rfl, Room.mk (by omega) (by omega), .inr (.inr ⟨(by omega), rfl, rfl, rfl, (by first | omega | (simp; done) | (simp; omega)), (by omega), rfl, ?_⟩)⟩
            | fail
          apply Again.mk (i + 1, i + 1, (x :: r) ++ [((s.drop b).take (i - b), b)])
          · exact ⟨Nat.le_refl _, by dsimp only; omega, by dsimp only; simp only [List.length_append, List.length_cons, List.length_nil]; omega, fun _ => by simp, by simpa [hl] using g5⟩
          · dsimp only; omega
          refine ⟨_, rfl, ?_⟩
          dsimp only [List.map]
          rw [ptV_snoc, ptB_snoc]
          refine RT.ren [2] rfl rfl ⟨⟨_, rfl, BTo.cells (fun z => z) (LTo.n (prt_cells (x := ((s.drop b).take (i - b), b)) rfl e1 rfl)), (fun z => by cases z)⟩, trivial⟩ ?_
          all_goals (repeat' first
            | exact LTo.nil
            | exact VTo.slice (by decide)
            | refine LTo.cons ?_ ?_
            | refine VTo.int ?_
            | refine VTo.string ?_
            | (with_reducible rfl)
            | fail)
          all_goals first
            | exact w1
            | rfl
      · have e2 := u8_ne hc
        rw [← eb, show ((124 : UInt8).toNat : Int) = 124 from rfl] at e2
        rw [prtR_on g1 hlt hc] at g5
        repeat' first
          | refine brP.tD (by omega) ?_
          | refine brP.fD (by omega) ?_
          | (apply Here.norm; (first | dsimp only [Env.putR, argEnv, pure1, newPtr, applyE, hset, List.length_cons, List.length_nil, List.length_append, List.set, List.cons_append, List.nil_append] | rfl); (first | dsimp only [Env.putR, argEnv, pure1, newPtr, applyE, hset, List.length_cons, List.length_nil, List.length_append, List.set, List.cons_append, List.nil_append] | rfl))
          | refine ⟨InB.mk (by first | decide | omega) (by first | decide | omega), ?_⟩
          | fail
        apply Again.mk (i + 1, b, o)
        · exact ⟨by dsimp only; omega, by dsimp only; omega, by dsimp only; omega, fun h => by dsimp only at h; omega, g5⟩
        · dsimp only; omega
        refine ⟨_, rfl, RT.of_eq ?_ rfl⟩
        rw [w1]; rfl
  · have hi1 : i = s.length + 1 := by omega
    have ho := g4 hi1
    rw [show prtR s i b = [] from if_neg hi, List.append_nil] at g5
    rw [← g5]
    cases o with
    | nil => exact absurd rfl ho
    | cons x r =>
      repeat' first
        | refine brP.fD (by omega) ?_
        | (apply Here.norm; (first | dsimp only [Env.putR, argEnv, pure1, newPtr, applyE, hset, List.length_cons, List.length_nil, List.length_append, List.set, List.cons_append, List.nil_append] | rfl); (first | dsimp only [Env.putR, argEnv, pure1, newPtr, applyE, hset, List.length_cons, List.length_nil, List.length_append, List.set, List.cons_append, List.nil_append] | rfl))
        | fail
      exact RT.z 0 rfl (VTo.fz' (by rw [prtC_len]; simp) (by rw [List.drop_zero, List.take_of_length_le (by rw [prtC_len]; exact Nat.le_refl _)]))
end Go.Proofs.YtioahngbfdfcaaaDoor
