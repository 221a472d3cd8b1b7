import Derived.Test.YtioahngbfdfcaaaDoorKRc
import Derived.Test.YtioahngbfdfcaaaDoorKLb
set_option linter.unusedVariables false
set_option linter.unusedSimpArgs false
namespace Go.Proofs.YtioahngbfdfcaaaDoor
open Go Go.Den Go.RowKit
variable {W0 : World}
/-! tumblerref02: Take -/
def takeF (l : List UInt8) : (Bool × List UInt8 × List UInt8) × Bool :=
  if (cutm l).1.takeWhile isd = [] then (((cutm l).2, [], []), false)
  else match (cutm l).1.dropWhile isd with
    | [] => (((cutm l).2, (cutm l).1.takeWhile isd, []), true)
    | c :: r => if c = 46 then (((cutm l).2, (cutm l).1.takeWhile isd, r.takeWhile isd), decide (r.dropWhile isd = [] ∧ r.takeWhile isd ≠ [])) else (((cutm l).2, (cutm l).1.takeWhile isd, []), false)
theorem takeF_dec (l : List UInt8) : decOf l = if (takeF l).2 = true then some (takeF l).1 else none := by
  unfold decOf decT takeF
  by_cases h : (cutm l).1.takeWhile isd = []
  · simp [h]
  · cases hR : (cutm l).1.dropWhile isd with
    | nil => simp [h]
    | cons c r =>
      by_cases h46 : c = 46
      · by_cases hF : r.takeWhile isd = []
        · simp [h, h46, hF]
        · by_cases hD : r.dropWhile isd = []
          · simp [h, h46, hF, hD]
          · simp [h, h46, hF, hD]
      · simp [h, h46]
abbrev dcL (b : Bool) (W F : List UInt8) : List Value := [.bool b, .string (bs W), .string (bs F)]
abbrev dcV (p : Bool × List UInt8 × List UInt8) : Value := .agg #[.bool p.1, .string (bs p.2.1), .string (bs p.2.2)]
abbrev dcB (b : Bool) (W F : List UInt8) : ABlk := .cells (dcL b W F) 1 true false Y.tumblerref02_Decimal
theorem byte_mid {pre m r : List UInt8} {c : UInt8} {i : Nat} (h : m[i]? = some c) : byteAt (bs (pre ++ (m ++ r))) ((pre.length + i : Nat) : Int) = (c.toNat : Int) := by
  obtain ⟨hi, hc⟩ := List.getElem?_eq_some_iff.mp h
  rw [byteAt_bs (by simp; omega)]
  congr 1
  rw [← hc]
  simp [List.getElem_append, hi]
theorem byte_end {pre m r : List UInt8} {c : UInt8} : byteAt (bs (pre ++ (m ++ c :: r))) ((pre.length + m.length : Nat) : Int) = (c.toNat : Int) := by
  rw [byteAt_bs (by simp)]
  congr 1
  simp
theorem cut_mid (pre m r : List UInt8) : (bs (pre ++ (m ++ r))).extract (((pre.length : Nat) : Int)).toNat (((pre.length + m.length : Nat) : Int)).toNat = bs m := by
  rw [Int.toNat_natCast, Int.toNat_natCast, bs_extract]; simp
abbrev tkV (l : List UInt8) : Value := .tuple #[dcV (takeF l).1, .bool (takeF l).2]
set_option maxRecDepth 20000 in
set_option maxHeartbeats 16000000 in
theorem take_tail (l pre W R : List UInt8) (b : Bool) (hb : cutm l = (W ++ R, b)) (el : l = pre ++ (W ++ R)) (hW : (W ++ R).takeWhile isd = W) (hR : (W ++ R).dropWhile isd = R) (hp : (b = true ∧ pre = [45]) ∨ (b = false ∧ pre = [] ∧ l.head? ≠ some 45)) (hl : l.length ≤ 1048576) :
    PureF (C W0) I.tumblerref02_Take [.string (bs l)] (tkV l) := by
  have hsz := bs_size l
  have ll : l.length = pre.length + (W.length + R.length) := by rw [el]; simp
  have dW := take_dig (W ++ R)
  rw [hW] at dW
  have tf : takeF l = if W = [] then ((b, [], []), false) else match R with
      | [] => ((b, W, []), true)
      | c :: r => if c = 46 then ((b, W, r.takeWhile isd), decide (r.dropWhile isd = [] ∧ r.takeWhile isd ≠ [])) else ((b, W, []), false) := by
    unfold takeF
    rw [hb]
    dsimp only
    rw [hW, hR]
  have eW : ∀ i (h : i < W.length), byteAt (bs l) ((pre.length + i : Nat) : Int) = ((W[i]'h).toNat : Int) := fun i h => by rw [el]; exact byte_mid (List.getElem?_eq_getElem h)
  have cW := cut_mid pre W R
  rw [← el] at cW
  have z45 : l.head? ≠ some 45 → 0 < l.length → byteAt (bs l) 0 ≠ 45 := fun hh l0 h => by
    cases hlz : l with
    | nil => rw [hlz] at l0; simp at l0
    | cons z t =>
      rw [hlz] at h
      have e0 : byteAt (bs (z :: t)) 0 = (z.toNat : Int) := byteAt_bs (l := z :: t) (i := 0) (by simp)
      rw [e0] at h
      exact hh (by rw [hlz]; simp; exact UInt8.toNat_inj.mp (by rw [show (45 : UInt8).toNat = 45 from rfl]; omega))
  have fin : ∀ p : (Bool × List UInt8 × List UInt8) × Bool, takeF l = p → tkV l = .tuple #[dcV p.1, .bool p.2] := fun p h => by unfold tkV; rw [h]
  cases R with
  | nil =>
    have ll : l.length = pre.length + W.length := ll
    by_cases hw : W = []
    · rw [if_pos hw] at tf
      rw [fin _ tf]
      refine PureF.E (CallP.of_body (C_ok W0) B.tumblerref02_Take rfl rfl rfl ?_)
      have wp : W.length = 0 := by rw [hw]; rfl
      rcases hp with ⟨rfl, rfl⟩ | ⟨rfl, rfl, hh⟩
      · have e0 : byteAt (bs l) 0 = 45 := by rw [el]; exact byteAt_bs (l := 45 :: (W ++ ([] : List UInt8))) (i := 0) (by simp)
        rw [show ([45] : List UInt8).length = 1 from rfl] at ll eW cW
        repeat' first
          | refine brP.tD (by omega) ?_
          | refine ⟨InB.mk (by omega) (by omega), ?_⟩
          | (apply Here.norm; (first | dsimp only [Env.putR, argEnv, pure1, newPtr, applyE, hset, List.length_cons, List.length_nil, List.length_append, List.set, List.cons_append, List.nil_append] | rfl); (first | dsimp only [Env.putR, argEnv, pure1, newPtr, applyE, hset, List.length_cons, List.length_nil, List.length_append, List.set, List.cons_append, List.nil_append] | rfl))
          | refine ⟨_, _, _, _, _, rfl, rfl, rfl, Fits.mk (by first | exact Nat.le_of_ble_eq_true rfl | (dsimp only; omega)), rfl, ?_⟩
          | refine ⟨by decide, ?_⟩
          | fail
        refine loop_I (C_ok W0) (fun i : Nat => i ≤ W.length)
          (fun i => [(0, .string (bs l)), (2, .pointer (some ⟨0, 0, none⟩)), (3, .bool false), (4, .pointer (some ⟨1, 0, none⟩)), (5, .int .i64 ((1 + i : Nat) : Int)), (6, .int .i64 ((1 : Nat) : Int))])
          (fun i => [dcB false [] [], dcB true [] []]) (fun i => W.length - i) 0 (Nat.zero_le _) ⟨_, rfl, RT.of_eq rfl rfl⟩ ?_
        intro i g1
        dsimp only
        by_cases hi : i < W.length
        · have eb := eW i hi
          have db := dW _ (List.getElem_mem hi)
          have w1 : IntKind.i64.wrap (((1 + i : Nat) : Int) + 1) = ((1 + (i + 1) : Nat) : Int) := by rw [wrap_in (by omega)]; omega
          repeat' first
            | refine brP.tD (by omega) ?_
            | refine ⟨InB.mk (by omega) (by omega), ?_⟩
            | (apply Here.norm; (first | dsimp only [Env.putR, argEnv, pure1, newPtr, applyE, hset, List.length_cons, List.length_nil, List.length_append, List.set, List.cons_append, List.nil_append] | rfl); (first | dsimp only [Env.putR, argEnv, pure1, newPtr, applyE, hset, List.length_cons, List.length_nil, List.length_append, List.set, List.cons_append, List.nil_append] | rfl))
            | fail
          apply Again.mk (i + 1)
          · omega
          · omega
          refine ⟨_, rfl, RT.of_eq ?_ rfl⟩
          rw [w1]; rfl
        · obtain rfl : i = W.length := by omega
          repeat' first
            | refine brP.tD (by omega) ?_
            | refine brP.fD (by omega) ?_
            | refine ⟨SlB.mk (by omega) (by omega) (by omega), ?_⟩
            | (apply Here.norm; (first | dsimp only [Env.putR, argEnv, pure1, newPtr, applyE, hset, List.length_cons, List.length_nil, List.length_append, List.set, List.cons_append, List.nil_append] | rfl); (first | dsimp only [Env.putR, argEnv, pure1, newPtr, applyE, hset, List.length_cons, List.length_nil, List.length_append, List.set, List.cons_append, List.nil_append] | rfl))
            | refine ⟨_, _, _, _, _, rfl, rfl, rfl, Fits.mk (by first | exact Nat.le_of_ble_eq_true rfl | (dsimp only; omega)), rfl, ?_⟩
            | refine ⟨_, _, _, _, _, rfl, Fits.mk (by first | exact Nat.le_of_ble_eq_true rfl | (dsimp only; omega)), _, rfl, ?_⟩
            | refine ⟨by decide, ?_⟩
            | fail
          first
            | (rw [cW]; rfl)
            | (rw [cW, hw]; rfl)
      · rw [show ([] : List UInt8).length = 0 from rfl] at ll eW cW
        skip
        repeat' first
          | refine brP.fD (by omega) ?_
          | (apply Here.norm; (first | dsimp only [Env.putR, argEnv, pure1, newPtr, applyE, hset, List.length_cons, List.length_nil, List.length_append, List.set, List.cons_append, List.nil_append] | rfl); (first | dsimp only [Env.putR, argEnv, pure1, newPtr, applyE, hset, List.length_cons, List.length_nil, List.length_append, List.set, List.cons_append, List.nil_append] | rfl))
          | refine ⟨_, _, _, _, _, rfl, rfl, rfl, Fits.mk (by first | exact Nat.le_of_ble_eq_true rfl | (dsimp only; omega)), rfl, ?_⟩
          | fail
        refine loop_I (C_ok W0) (fun i : Nat => i ≤ W.length)
          (fun i => [(0, .string (bs l)), (2, .pointer (some ⟨0, 0, none⟩)), (3, .bool false), (4, .pointer (some ⟨1, 0, none⟩)), (5, .int .i64 ((0 + i : Nat) : Int)), (6, .int .i64 ((0 : Nat) : Int))])
          (fun i => [dcB false [] [], dcB false [] []]) (fun i => W.length - i) 0 (Nat.zero_le _) ⟨_, rfl, RT.of_eq rfl rfl⟩ ?_
        intro i g1
        dsimp only
        by_cases hi : i < W.length
        · have eb := eW i hi
          have db := dW _ (List.getElem_mem hi)
          have w1 : IntKind.i64.wrap (((0 + i : Nat) : Int) + 1) = ((0 + (i + 1) : Nat) : Int) := by rw [wrap_in (by omega)]; omega
          repeat' first
            | refine brP.tD (by omega) ?_
            | refine ⟨InB.mk (by omega) (by omega), ?_⟩
            | (apply Here.norm; (first | dsimp only [Env.putR, argEnv, pure1, newPtr, applyE, hset, List.length_cons, List.length_nil, List.length_append, List.set, List.cons_append, List.nil_append] | rfl); (first | dsimp only [Env.putR, argEnv, pure1, newPtr, applyE, hset, List.length_cons, List.length_nil, List.length_append, List.set, List.cons_append, List.nil_append] | rfl))
            | fail
          apply Again.mk (i + 1)
          · omega
          · omega
          refine ⟨_, rfl, RT.of_eq ?_ rfl⟩
          rw [w1]; rfl
        · obtain rfl : i = W.length := by omega
          repeat' first
            | refine brP.tD (by omega) ?_
            | refine brP.fD (by omega) ?_
            | refine ⟨SlB.mk (by omega) (by omega) (by omega), ?_⟩
            | (apply Here.norm; (first | dsimp only [Env.putR, argEnv, pure1, newPtr, applyE, hset, List.length_cons, List.length_nil, List.length_append, List.set, List.cons_append, List.nil_append] | rfl); (first | dsimp only [Env.putR, argEnv, pure1, newPtr, applyE, hset, List.length_cons, List.length_nil, List.length_append, List.set, List.cons_append, List.nil_append] | rfl))
            | refine ⟨_, _, _, _, _, rfl, rfl, rfl, Fits.mk (by first | exact Nat.le_of_ble_eq_true rfl | (dsimp only; omega)), rfl, ?_⟩
            | refine ⟨_, _, _, _, _, rfl, Fits.mk (by first | exact Nat.le_of_ble_eq_true rfl | (dsimp only; omega)), _, rfl, ?_⟩
            | refine ⟨by decide, ?_⟩
            | fail
          first
            | (rw [cW]; rfl)
            | (rw [cW, hw]; rfl)
    · have wp : 0 < W.length := List.length_pos_iff.mpr hw
      rw [if_neg hw] at tf
      rw [fin _ tf]
      refine PureF.E (CallP.of_body (C_ok W0) B.tumblerref02_Take rfl rfl rfl ?_)
      rcases hp with ⟨rfl, rfl⟩ | ⟨rfl, rfl, hh⟩
      · have e0 : byteAt (bs l) 0 = 45 := by rw [el]; exact byteAt_bs (l := 45 :: (W ++ ([] : List UInt8))) (i := 0) (by simp)
        rw [show ([45] : List UInt8).length = 1 from rfl] at ll eW cW
        repeat' first
          | refine brP.tD (by omega) ?_
          | refine ⟨InB.mk (by omega) (by omega), ?_⟩
          | (apply Here.norm; (first | dsimp only [Env.putR, argEnv, pure1, newPtr, applyE, hset, List.length_cons, List.length_nil, List.length_append, List.set, List.cons_append, List.nil_append] | rfl); (first | dsimp only [Env.putR, argEnv, pure1, newPtr, applyE, hset, List.length_cons, List.length_nil, List.length_append, List.set, List.cons_append, List.nil_append] | rfl))
          | refine ⟨_, _, _, _, _, rfl, rfl, rfl, Fits.mk (by first | exact Nat.le_of_ble_eq_true rfl | (dsimp only; omega)), rfl, ?_⟩
          | refine ⟨by decide, ?_⟩
          | fail
        refine loop_I (C_ok W0) (fun i : Nat => i ≤ W.length)
          (fun i => [(0, .string (bs l)), (2, .pointer (some ⟨0, 0, none⟩)), (3, .bool false), (4, .pointer (some ⟨1, 0, none⟩)), (5, .int .i64 ((1 + i : Nat) : Int)), (6, .int .i64 ((1 : Nat) : Int))])
          (fun i => [dcB false [] [], dcB true [] []]) (fun i => W.length - i) 0 (Nat.zero_le _) ⟨_, rfl, RT.of_eq rfl rfl⟩ ?_
        intro i g1
        dsimp only
        by_cases hi : i < W.length
        · have eb := eW i hi
          have db := dW _ (List.getElem_mem hi)
          have w1 : IntKind.i64.wrap (((1 + i : Nat) : Int) + 1) = ((1 + (i + 1) : Nat) : Int) := by rw [wrap_in (by omega)]; omega
          repeat' first
            | refine brP.tD (by omega) ?_
            | refine ⟨InB.mk (by omega) (by omega), ?_⟩
            | (apply Here.norm; (first | dsimp only [Env.putR, argEnv, pure1, newPtr, applyE, hset, List.length_cons, List.length_nil, List.length_append, List.set, List.cons_append, List.nil_append] | rfl); (first | dsimp only [Env.putR, argEnv, pure1, newPtr, applyE, hset, List.length_cons, List.length_nil, List.length_append, List.set, List.cons_append, List.nil_append] | rfl))
            | fail
          apply Again.mk (i + 1)
          · omega
          · omega
          refine ⟨_, rfl, RT.of_eq ?_ rfl⟩
          rw [w1]; rfl
        · obtain rfl : i = W.length := by omega
          repeat' first
            | refine brP.tD (by omega) ?_
            | refine brP.fD (by omega) ?_
            | refine ⟨SlB.mk (by omega) (by omega) (by omega), ?_⟩
            | (apply Here.norm; (first | dsimp only [Env.putR, argEnv, pure1, newPtr, applyE, hset, List.length_cons, List.length_nil, List.length_append, List.set, List.cons_append, List.nil_append] | rfl); (first | dsimp only [Env.putR, argEnv, pure1, newPtr, applyE, hset, List.length_cons, List.length_nil, List.length_append, List.set, List.cons_append, List.nil_append] | rfl))
            | refine ⟨_, _, _, _, _, rfl, rfl, rfl, Fits.mk (by first | exact Nat.le_of_ble_eq_true rfl | (dsimp only; omega)), rfl, ?_⟩
            | refine ⟨_, _, _, _, _, rfl, Fits.mk (by first | exact Nat.le_of_ble_eq_true rfl | (dsimp only; omega)), _, rfl, ?_⟩
            | refine ⟨by decide, ?_⟩
            | fail
          first
            | (rw [cW]; rfl)
            | (rw [cW, hw]; rfl)
      · rw [show ([] : List UInt8).length = 0 from rfl] at ll eW cW
        have z45 := z45 hh (by omega)
        repeat' first
          | refine brP.tD (by omega) ?_
          | refine brP.fD (by omega) ?_
          | refine ⟨InB.mk (by omega) (by omega), ?_⟩
          | (apply Here.norm; (first | dsimp only [Env.putR, argEnv, pure1, newPtr, applyE, hset, List.length_cons, List.length_nil, List.length_append, List.set, List.cons_append, List.nil_append] | rfl); (first | dsimp only [Env.putR, argEnv, pure1, newPtr, applyE, hset, List.length_cons, List.length_nil, List.length_append, List.set, List.cons_append, List.nil_append] | rfl))
          | refine ⟨_, _, _, _, _, rfl, rfl, rfl, Fits.mk (by first | exact Nat.le_of_ble_eq_true rfl | (dsimp only; omega)), rfl, ?_⟩
          | fail
        refine loop_I (C_ok W0) (fun i : Nat => i ≤ W.length)
          (fun i => [(0, .string (bs l)), (2, .pointer (some ⟨0, 0, none⟩)), (3, .bool false), (4, .pointer (some ⟨1, 0, none⟩)), (5, .int .i64 ((0 + i : Nat) : Int)), (6, .int .i64 ((0 : Nat) : Int))])
          (fun i => [dcB false [] [], dcB false [] []]) (fun i => W.length - i) 0 (Nat.zero_le _) ⟨_, rfl, RT.of_eq rfl rfl⟩ ?_
        intro i g1
        dsimp only
        by_cases hi : i < W.length
        · have eb := eW i hi
          have db := dW _ (List.getElem_mem hi)
          have w1 : IntKind.i64.wrap (((0 + i : Nat) : Int) + 1) = ((0 + (i + 1) : Nat) : Int) := by rw [wrap_in (by omega)]; omega
          repeat' first
            | refine brP.tD (by omega) ?_
            | refine ⟨InB.mk (by omega) (by omega), ?_⟩
            | (apply Here.norm; (first | dsimp only [Env.putR, argEnv, pure1, newPtr, applyE, hset, List.length_cons, List.length_nil, List.length_append, List.set, List.cons_append, List.nil_append] | rfl); (first | dsimp only [Env.putR, argEnv, pure1, newPtr, applyE, hset, List.length_cons, List.length_nil, List.length_append, List.set, List.cons_append, List.nil_append] | rfl))
            | fail
          apply Again.mk (i + 1)
          · omega
          · omega
          refine ⟨_, rfl, RT.of_eq ?_ rfl⟩
          rw [w1]; rfl
        · obtain rfl : i = W.length := by omega
          repeat' first
            | refine brP.tD (by omega) ?_
            | refine brP.fD (by omega) ?_
            | refine ⟨SlB.mk (by omega) (by omega) (by omega), ?_⟩
            | (apply Here.norm; (first | dsimp only [Env.putR, argEnv, pure1, newPtr, applyE, hset, List.length_cons, List.length_nil, List.length_append, List.set, List.cons_append, List.nil_append] | rfl); (first | dsimp only [Env.putR, argEnv, pure1, newPtr, applyE, hset, List.length_cons, List.length_nil, List.length_append, List.set, List.cons_append, List.nil_append] | rfl))
            | refine ⟨_, _, _, _, _, rfl, rfl, rfl, Fits.mk (by first | exact Nat.le_of_ble_eq_true rfl | (dsimp only; omega)), rfl, ?_⟩
            | refine ⟨_, _, _, _, _, rfl, Fits.mk (by first | exact Nat.le_of_ble_eq_true rfl | (dsimp only; omega)), _, rfl, ?_⟩
            | refine ⟨by decide, ?_⟩
            | fail
          first
            | (rw [cW]; rfl)
            | (rw [cW, hw]; rfl)
  | cons c r =>
    have ll : l.length = pre.length + W.length + (r.length + 1) := by rw [ll]; simp; omega
    have hc := isd_no (drop_head hR)
    have eR : byteAt (bs l) ((pre.length + W.length : Nat) : Int) = (c.toNat : Int) := by rw [el]; exact byte_end
    have rF := take_drop r
    have eF : ∀ i (h : i < (r.takeWhile isd).length), byteAt (bs l) ((pre.length + W.length + 1 + i : Nat) : Int) = (((r.takeWhile isd)[i]'h).toNat : Int) := fun i h => by
      have := byte_mid (pre := pre ++ (W ++ [c])) (m := r.takeWhile isd) (r := r.dropWhile isd) (List.getElem?_eq_getElem h)
      rw [rF, show pre ++ (W ++ [c]) ++ r = l by rw [el]; simp] at this
      rw [← this]; congr 1; simp; omega
    have cF := cut_mid (pre ++ (W ++ [c])) (r.takeWhile isd) (r.dropWhile isd)
    rw [rF, show pre ++ (W ++ [c]) ++ r = l by rw [el]; simp, show (pre ++ (W ++ [c])).length = pre.length + W.length + 1 by simp; omega] at cF
    have dF := take_dig r
    have eR2 : ∀ c2 t, r.dropWhile isd = c2 :: t → byteAt (bs l) ((pre.length + W.length + 1 + (r.takeWhile isd).length : Nat) : Int) = (c2.toNat : Int) := fun c2 t h => by
      have := byte_end (pre := pre ++ (W ++ [c])) (m := r.takeWhile isd) (c := c2) (r := t)
      rw [← h, rF, show pre ++ (W ++ [c]) ++ r = l by rw [el]; simp] at this
      rw [← this]; congr 1; simp; omega
    have hd2 : ∀ c2 t, r.dropWhile isd = c2 :: t → isd c2 = false := fun c2 t h => drop_head h
    have lF : r.length = (r.takeWhile isd).length + (r.dropWhile isd).length := by rw [← List.length_append, rF]
    dsimp only at tf
    generalize r.takeWhile isd = F at *
    generalize r.dropWhile isd = R2 at *
    have l0 : 0 < l.length := by omega
    by_cases hw : W = []
    · rw [if_pos hw] at tf
      rw [fin _ tf]
      refine PureF.E (CallP.of_body (C_ok W0) B.tumblerref02_Take rfl rfl rfl ?_)
      have wp : W.length = 0 := by rw [hw]; rfl
      rcases hp with ⟨rfl, rfl⟩ | ⟨rfl, rfl, hh⟩
      · have e0 : byteAt (bs l) 0 = 45 := by rw [el]; exact byteAt_bs (l := 45 :: (W ++ c :: r)) (i := 0) (by simp)
        rw [show ([45] : List UInt8).length = 1 from rfl] at ll eW cW eR eF cF eR2
        try rw [show ([45] : List UInt8).length = 1 from rfl] at e2
        repeat' first
          | refine brP.tD (by omega) ?_
          | refine ⟨InB.mk (by omega) (by omega), ?_⟩
          | (apply Here.norm; (first | dsimp only [Env.putR, argEnv, pure1, newPtr, applyE, hset, List.length_cons, List.length_nil, List.length_append, List.set, List.cons_append, List.nil_append] | rfl); (first | dsimp only [Env.putR, argEnv, pure1, newPtr, applyE, hset, List.length_cons, List.length_nil, List.length_append, List.set, List.cons_append, List.nil_append] | rfl))
          | refine ⟨_, _, _, _, _, rfl, rfl, rfl, Fits.mk (by first | exact Nat.le_of_ble_eq_true rfl | (dsimp only; omega)), rfl, ?_⟩
          | refine ⟨by decide, ?_⟩
          | fail
        refine loop_I (C_ok W0) (fun i : Nat => i ≤ W.length)
          (fun i => [(0, .string (bs l)), (2, .pointer (some ⟨0, 0, none⟩)), (3, .bool false), (4, .pointer (some ⟨1, 0, none⟩)), (5, .int .i64 ((1 + i : Nat) : Int)), (6, .int .i64 ((1 : Nat) : Int))])
          (fun i => [dcB false [] [], dcB true [] []]) (fun i => W.length - i) 0 (Nat.zero_le _) ⟨_, rfl, RT.of_eq rfl rfl⟩ ?_
        intro i g1
        dsimp only
        by_cases hi : i < W.length
        · have eb := eW i hi
          have db := dW _ (List.getElem_mem hi)
          have w1 : IntKind.i64.wrap (((1 + i : Nat) : Int) + 1) = ((1 + (i + 1) : Nat) : Int) := by rw [wrap_in (by omega)]; omega
          repeat' first
            | refine brP.tD (by omega) ?_
            | refine ⟨InB.mk (by omega) (by omega), ?_⟩
            | (apply Here.norm; (first | dsimp only [Env.putR, argEnv, pure1, newPtr, applyE, hset, List.length_cons, List.length_nil, List.length_append, List.set, List.cons_append, List.nil_append] | rfl); (first | dsimp only [Env.putR, argEnv, pure1, newPtr, applyE, hset, List.length_cons, List.length_nil, List.length_append, List.set, List.cons_append, List.nil_append] | rfl))
            | fail
          apply Again.mk (i + 1)
          · omega
          · omega
          refine ⟨_, rfl, RT.of_eq ?_ rfl⟩
          rw [w1]; rfl
        · obtain rfl : i = W.length := by omega
          by_cases lo : c.toNat < 48
          ·
            repeat' first
              | refine brP.tD (by omega) ?_
              | refine brP.fD (by omega) ?_
              | refine ⟨InB.mk (by omega) (by omega), ?_⟩
              | refine ⟨SlB.mk (by omega) (by omega) (by omega), ?_⟩
              | (apply Here.norm; (first | dsimp only [Env.putR, argEnv, pure1, newPtr, applyE, hset, List.length_cons, List.length_nil, List.length_append, List.set, List.cons_append, List.nil_append] | rfl); (first | dsimp only [Env.putR, argEnv, pure1, newPtr, applyE, hset, List.length_cons, List.length_nil, List.length_append, List.set, List.cons_append, List.nil_append] | rfl))
              | refine ⟨_, _, _, _, _, rfl, rfl, rfl, Fits.mk (by first | exact Nat.le_of_ble_eq_true rfl | (dsimp only; omega)), rfl, ?_⟩
              | refine ⟨_, _, _, _, _, rfl, Fits.mk (by first | exact Nat.le_of_ble_eq_true rfl | (dsimp only; omega)), _, rfl, ?_⟩
              | refine ⟨by decide, ?_⟩
              | fail
            first
              | (rw [cW]; rfl)
              | (rw [cW, hw]; rfl)
          ·
            repeat' first
              | refine brP.tD (by omega) ?_
              | refine brP.fD (by omega) ?_
              | refine ⟨InB.mk (by omega) (by omega), ?_⟩
              | refine ⟨SlB.mk (by omega) (by omega) (by omega), ?_⟩
              | (apply Here.norm; (first | dsimp only [Env.putR, argEnv, pure1, newPtr, applyE, hset, List.length_cons, List.length_nil, List.length_append, List.set, List.cons_append, List.nil_append] | rfl); (first | dsimp only [Env.putR, argEnv, pure1, newPtr, applyE, hset, List.length_cons, List.length_nil, List.length_append, List.set, List.cons_append, List.nil_append] | rfl))
              | refine ⟨_, _, _, _, _, rfl, rfl, rfl, Fits.mk (by first | exact Nat.le_of_ble_eq_true rfl | (dsimp only; omega)), rfl, ?_⟩
              | refine ⟨_, _, _, _, _, rfl, Fits.mk (by first | exact Nat.le_of_ble_eq_true rfl | (dsimp only; omega)), _, rfl, ?_⟩
              | refine ⟨by decide, ?_⟩
              | fail
            first
              | (rw [cW]; rfl)
              | (rw [cW, hw]; rfl)
      · rw [show ([] : List UInt8).length = 0 from rfl] at ll eW cW eR eF cF eR2
        try rw [show ([] : List UInt8).length = 0 from rfl] at e2
        have z45 := z45 hh l0
        repeat' first
          | refine brP.tD (by omega) ?_
          | refine brP.fD (by omega) ?_
          | refine ⟨InB.mk (by omega) (by omega), ?_⟩
          | (apply Here.norm; (first | dsimp only [Env.putR, argEnv, pure1, newPtr, applyE, hset, List.length_cons, List.length_nil, List.length_append, List.set, List.cons_append, List.nil_append] | rfl); (first | dsimp only [Env.putR, argEnv, pure1, newPtr, applyE, hset, List.length_cons, List.length_nil, List.length_append, List.set, List.cons_append, List.nil_append] | rfl))
          | refine ⟨_, _, _, _, _, rfl, rfl, rfl, Fits.mk (by first | exact Nat.le_of_ble_eq_true rfl | (dsimp only; omega)), rfl, ?_⟩
          | fail
        refine loop_I (C_ok W0) (fun i : Nat => i ≤ W.length)
          (fun i => [(0, .string (bs l)), (2, .pointer (some ⟨0, 0, none⟩)), (3, .bool false), (4, .pointer (some ⟨1, 0, none⟩)), (5, .int .i64 ((0 + i : Nat) : Int)), (6, .int .i64 ((0 : Nat) : Int))])
          (fun i => [dcB false [] [], dcB false [] []]) (fun i => W.length - i) 0 (Nat.zero_le _) ⟨_, rfl, RT.of_eq rfl rfl⟩ ?_
        intro i g1
        dsimp only
        by_cases hi : i < W.length
        · have eb := eW i hi
          have db := dW _ (List.getElem_mem hi)
          have w1 : IntKind.i64.wrap (((0 + i : Nat) : Int) + 1) = ((0 + (i + 1) : Nat) : Int) := by rw [wrap_in (by omega)]; omega
          repeat' first
            | refine brP.tD (by omega) ?_
            | refine ⟨InB.mk (by omega) (by omega), ?_⟩
            | (apply Here.norm; (first | dsimp only [Env.putR, argEnv, pure1, newPtr, applyE, hset, List.length_cons, List.length_nil, List.length_append, List.set, List.cons_append, List.nil_append] | rfl); (first | dsimp only [Env.putR, argEnv, pure1, newPtr, applyE, hset, List.length_cons, List.length_nil, List.length_append, List.set, List.cons_append, List.nil_append] | rfl))
            | fail
          apply Again.mk (i + 1)
          · omega
          · omega
          refine ⟨_, rfl, RT.of_eq ?_ rfl⟩
          rw [w1]; rfl
        · obtain rfl : i = W.length := by omega
          by_cases lo : c.toNat < 48
          ·
            repeat' first
              | refine brP.tD (by omega) ?_
              | refine brP.fD (by omega) ?_
              | refine ⟨InB.mk (by omega) (by omega), ?_⟩
              | refine ⟨SlB.mk (by omega) (by omega) (by omega), ?_⟩
              | (apply Here.norm; (first | dsimp only [Env.putR, argEnv, pure1, newPtr, applyE, hset, List.length_cons, List.length_nil, List.length_append, List.set, List.cons_append, List.nil_append] | rfl); (first | dsimp only [Env.putR, argEnv, pure1, newPtr, applyE, hset, List.length_cons, List.length_nil, List.length_append, List.set, List.cons_append, List.nil_append] | rfl))
              | refine ⟨_, _, _, _, _, rfl, rfl, rfl, Fits.mk (by first | exact Nat.le_of_ble_eq_true rfl | (dsimp only; omega)), rfl, ?_⟩
              | refine ⟨_, _, _, _, _, rfl, Fits.mk (by first | exact Nat.le_of_ble_eq_true rfl | (dsimp only; omega)), _, rfl, ?_⟩
              | refine ⟨by decide, ?_⟩
              | fail
            first
              | (rw [cW]; rfl)
              | (rw [cW, hw]; rfl)
          ·
            repeat' first
              | refine brP.tD (by omega) ?_
              | refine brP.fD (by omega) ?_
              | refine ⟨InB.mk (by omega) (by omega), ?_⟩
              | refine ⟨SlB.mk (by omega) (by omega) (by omega), ?_⟩
              | (apply Here.norm; (first | dsimp only [Env.putR, argEnv, pure1, newPtr, applyE, hset, List.length_cons, List.length_nil, List.length_append, List.set, List.cons_append, List.nil_append] | rfl); (first | dsimp only [Env.putR, argEnv, pure1, newPtr, applyE, hset, List.length_cons, List.length_nil, List.length_append, List.set, List.cons_append, List.nil_append] | rfl))
              | refine ⟨_, _, _, _, _, rfl, rfl, rfl, Fits.mk (by first | exact Nat.le_of_ble_eq_true rfl | (dsimp only; omega)), rfl, ?_⟩
              | refine ⟨_, _, _, _, _, rfl, Fits.mk (by first | exact Nat.le_of_ble_eq_true rfl | (dsimp only; omega)), _, rfl, ?_⟩
              | refine ⟨by decide, ?_⟩
              | fail
            first
              | (rw [cW]; rfl)
              | (rw [cW, hw]; rfl)
    · have wp : 0 < W.length := List.length_pos_iff.mpr hw
      rw [if_neg hw] at tf
      by_cases h46 : c = 46
      · have c46 : (c.toNat : Int) = 46 := by rw [h46]; rfl
        rw [if_pos h46] at tf
        cases R2 with
        | nil =>
          have lF : r.length = F.length := lF
          by_cases hF : F = []
          · rw [decide_eq_false (fun z => z.2 hF)] at tf
            rw [fin _ tf]
            refine PureF.E (CallP.of_body (C_ok W0) B.tumblerref02_Take rfl rfl rfl ?_)
            have fp : F.length = 0 := by rw [hF]; rfl
            rcases hp with ⟨rfl, rfl⟩ | ⟨rfl, rfl, hh⟩
            · have e0 : byteAt (bs l) 0 = 45 := by rw [el]; exact byteAt_bs (l := 45 :: (W ++ c :: r)) (i := 0) (by simp)
              rw [show ([45] : List UInt8).length = 1 from rfl] at ll eW cW eR eF cF eR2
              try rw [show ([45] : List UInt8).length = 1 from rfl] at e2
              repeat' first
                | refine brP.tD (by omega) ?_
                | refine ⟨InB.mk (by omega) (by omega), ?_⟩
                | (apply Here.norm; (first | dsimp only [Env.putR, argEnv, pure1, newPtr, applyE, hset, List.length_cons, List.length_nil, List.length_append, List.set, List.cons_append, List.nil_append] | rfl); (first | dsimp only [Env.putR, argEnv, pure1, newPtr, applyE, hset, List.length_cons, List.length_nil, List.length_append, List.set, List.cons_append, List.nil_append] | rfl))
                | refine ⟨_, _, _, _, _, rfl, rfl, rfl, Fits.mk (by first | exact Nat.le_of_ble_eq_true rfl | (dsimp only; omega)), rfl, ?_⟩
                | refine ⟨by decide, ?_⟩
                | fail
              refine loop_I (C_ok W0) (fun i : Nat => i ≤ W.length)
                (fun i => [(0, .string (bs l)), (2, .pointer (some ⟨0, 0, none⟩)), (3, .bool false), (4, .pointer (some ⟨1, 0, none⟩)), (5, .int .i64 ((1 + i : Nat) : Int)), (6, .int .i64 ((1 : Nat) : Int))])
                (fun i => [dcB false [] [], dcB true [] []]) (fun i => W.length - i) 0 (Nat.zero_le _) ⟨_, rfl, RT.of_eq rfl rfl⟩ ?_
              intro i g1
              dsimp only
              by_cases hi : i < W.length
              · have eb := eW i hi
                have db := dW _ (List.getElem_mem hi)
                have w1 : IntKind.i64.wrap (((1 + i : Nat) : Int) + 1) = ((1 + (i + 1) : Nat) : Int) := by rw [wrap_in (by omega)]; omega
                repeat' first
                  | refine brP.tD (by omega) ?_
                  | refine ⟨InB.mk (by omega) (by omega), ?_⟩
                  | (apply Here.norm; (first | dsimp only [Env.putR, argEnv, pure1, newPtr, applyE, hset, List.length_cons, List.length_nil, List.length_append, List.set, List.cons_append, List.nil_append] | rfl); (first | dsimp only [Env.putR, argEnv, pure1, newPtr, applyE, hset, List.length_cons, List.length_nil, List.length_append, List.set, List.cons_append, List.nil_append] | rfl))
                  | fail
                apply Again.mk (i + 1)
                · omega
                · omega
                refine ⟨_, rfl, RT.of_eq ?_ rfl⟩
                rw [w1]; rfl
              · obtain rfl : i = W.length := by omega
                have w5 : IntKind.i64.wrap (((1 + W.length : Nat) : Int) + 1) = ((1 + W.length + 1 : Nat) : Int) := by rw [wrap_in (by omega)]; omega
                repeat' first
                  | refine brP.tD (by omega) ?_
                  | refine brP.fD (by omega) ?_
                  | refine brP.fN (by omega) ?_
                  | refine ⟨InB.mk (by omega) (by omega), ?_⟩
                  | refine ⟨SlB.mk (by omega) (by omega) (by omega), ?_⟩
                  | (apply Here.norm; (first | dsimp only [Env.putR, argEnv, pure1, newPtr, applyE, hset, List.length_cons, List.length_nil, List.length_append, List.set, List.cons_append, List.nil_append] | rfl); (first | dsimp only [Env.putR, argEnv, pure1, newPtr, applyE, hset, List.length_cons, List.length_nil, List.length_append, List.set, List.cons_append, List.nil_append] | rfl))
                  | refine ⟨_, _, _, _, _, rfl, rfl, rfl, Fits.mk (by first | exact Nat.le_of_ble_eq_true rfl | (dsimp only; omega)), rfl, ?_⟩
                  | refine ⟨by decide, ?_⟩
                  | fail
                refine loop_I (C_ok W0) (fun i : Nat => i ≤ F.length)
                  (fun i => [(0, .string (bs l)), (2, .pointer (some ⟨0, 0, none⟩)), (3, .bool false), (4, .pointer (some ⟨1, 0, none⟩)), (5, .int .i64 ((1 + W.length + 1 + i : Nat) : Int)), (6, .int .i64 ((1 + W.length + 1 : Nat) : Int))])
                  (fun i => [dcB false [] [], dcB true W []]) (fun i => F.length - i) 0 (Nat.zero_le _) ⟨_, rfl, RT.of_eq (by rw [w5]; rfl) (by rw [cW]; rfl)⟩ ?_
                intro i g3
                try dsimp only
                by_cases hi2 : i < F.length
                · have eb := eF i hi2
                  have db := dF _ (List.getElem_mem hi2)
                  have w1 : IntKind.i64.wrap (((1 + W.length + 1 + i : Nat) : Int) + 1) = ((1 + W.length + 1 + (i + 1) : Nat) : Int) := by rw [wrap_in (by omega)]; omega
                  repeat' first
                    | refine brP.tD (by omega) ?_
                    | refine ⟨InB.mk (by omega) (by omega), ?_⟩
                    | (apply Here.norm; (first | dsimp only [Env.putR, argEnv, pure1, newPtr, applyE, hset, List.length_cons, List.length_nil, List.length_append, List.set, List.cons_append, List.nil_append] | rfl); (first | dsimp only [Env.putR, argEnv, pure1, newPtr, applyE, hset, List.length_cons, List.length_nil, List.length_append, List.set, List.cons_append, List.nil_append] | rfl))
                    | fail
                  apply Again.mk (i + 1)
                  · omega
                  · omega
                  refine ⟨_, rfl, RT.of_eq ?_ rfl⟩
                  rw [w1]; rfl
                · obtain rfl : i = F.length := by omega
                  repeat' first
                    | refine brP.tD (by omega) ?_
                    | refine brP.fD (by omega) ?_
                    | refine ⟨SlB.mk (by omega) (by omega) (by omega), ?_⟩
                    | (apply Here.norm; (first | dsimp only [Env.putR, argEnv, pure1, newPtr, applyE, hset, List.length_cons, List.length_nil, List.length_append, List.set, List.cons_append, List.nil_append] | rfl); (first | dsimp only [Env.putR, argEnv, pure1, newPtr, applyE, hset, List.length_cons, List.length_nil, List.length_append, List.set, List.cons_append, List.nil_append] | rfl))
                    | refine ⟨_, _, _, _, _, rfl, rfl, rfl, Fits.mk (by first | exact Nat.le_of_ble_eq_true rfl | (dsimp only; omega)), rfl, ?_⟩
                    | refine ⟨_, _, _, _, _, rfl, Fits.mk (by first | exact Nat.le_of_ble_eq_true rfl | (dsimp only; omega)), _, rfl, ?_⟩
                    | refine ⟨by decide, ?_⟩
                    | fail
                  (rw [cF, decide_eq_false (by omega)]; rfl)
            · rw [show ([] : List UInt8).length = 0 from rfl] at ll eW cW eR eF cF eR2
              try rw [show ([] : List UInt8).length = 0 from rfl] at e2
              have z45 := z45 hh l0
              repeat' first
                | refine brP.tD (by omega) ?_
                | refine brP.fD (by omega) ?_
                | refine ⟨InB.mk (by omega) (by omega), ?_⟩
                | (apply Here.norm; (first | dsimp only [Env.putR, argEnv, pure1, newPtr, applyE, hset, List.length_cons, List.length_nil, List.length_append, List.set, List.cons_append, List.nil_append] | rfl); (first | dsimp only [Env.putR, argEnv, pure1, newPtr, applyE, hset, List.length_cons, List.length_nil, List.length_append, List.set, List.cons_append, List.nil_append] | rfl))
                | refine ⟨_, _, _, _, _, rfl, rfl, rfl, Fits.mk (by first | exact Nat.le_of_ble_eq_true rfl | (dsimp only; omega)), rfl, ?_⟩
                | fail
              refine loop_I (C_ok W0) (fun i : Nat => i ≤ W.length)
                (fun i => [(0, .string (bs l)), (2, .pointer (some ⟨0, 0, none⟩)), (3, .bool false), (4, .pointer (some ⟨1, 0, none⟩)), (5, .int .i64 ((0 + i : Nat) : Int)), (6, .int .i64 ((0 : Nat) : Int))])
                (fun i => [dcB false [] [], dcB false [] []]) (fun i => W.length - i) 0 (Nat.zero_le _) ⟨_, rfl, RT.of_eq rfl rfl⟩ ?_
              intro i g1
              dsimp only
              by_cases hi : i < W.length
              · have eb := eW i hi
                have db := dW _ (List.getElem_mem hi)
                have w1 : IntKind.i64.wrap (((0 + i : Nat) : Int) + 1) = ((0 + (i + 1) : Nat) : Int) := by rw [wrap_in (by omega)]; omega
                repeat' first
                  | refine brP.tD (by omega) ?_
                  | refine ⟨InB.mk (by omega) (by omega), ?_⟩
                  | (apply Here.norm; (first | dsimp only [Env.putR, argEnv, pure1, newPtr, applyE, hset, List.length_cons, List.length_nil, List.length_append, List.set, List.cons_append, List.nil_append] | rfl); (first | dsimp only [Env.putR, argEnv, pure1, newPtr, applyE, hset, List.length_cons, List.length_nil, List.length_append, List.set, List.cons_append, List.nil_append] | rfl))
                  | fail
                apply Again.mk (i + 1)
                · omega
                · omega
                refine ⟨_, rfl, RT.of_eq ?_ rfl⟩
                rw [w1]; rfl
              · obtain rfl : i = W.length := by omega
                have w5 : IntKind.i64.wrap (((0 + W.length : Nat) : Int) + 1) = ((0 + W.length + 1 : Nat) : Int) := by rw [wrap_in (by omega)]; omega
                repeat' first
                  | refine brP.tD (by omega) ?_
                  | refine brP.fD (by omega) ?_
                  | refine brP.fN (by omega) ?_
                  | refine ⟨InB.mk (by omega) (by omega), ?_⟩
                  | refine ⟨SlB.mk (by omega) (by omega) (by omega), ?_⟩
                  | (apply Here.norm; (first | dsimp only [Env.putR, argEnv, pure1, newPtr, applyE, hset, List.length_cons, List.length_nil, List.length_append, List.set, List.cons_append, List.nil_append] | rfl); (first | dsimp only [Env.putR, argEnv, pure1, newPtr, applyE, hset, List.length_cons, List.length_nil, List.length_append, List.set, List.cons_append, List.nil_append] | rfl))
                  | refine ⟨_, _, _, _, _, rfl, rfl, rfl, Fits.mk (by first | exact Nat.le_of_ble_eq_true rfl | (dsimp only; omega)), rfl, ?_⟩
                  | refine ⟨by decide, ?_⟩
                  | fail
                refine loop_I (C_ok W0) (fun i : Nat => i ≤ F.length)
                  (fun i => [(0, .string (bs l)), (2, .pointer (some ⟨0, 0, none⟩)), (3, .bool false), (4, .pointer (some ⟨1, 0, none⟩)), (5, .int .i64 ((0 + W.length + 1 + i : Nat) : Int)), (6, .int .i64 ((0 + W.length + 1 : Nat) : Int))])
                  (fun i => [dcB false [] [], dcB false W []]) (fun i => F.length - i) 0 (Nat.zero_le _) ⟨_, rfl, RT.of_eq (by rw [w5]; rfl) (by rw [cW]; rfl)⟩ ?_
                intro i g3
                try dsimp only
                by_cases hi2 : i < F.length
                · have eb := eF i hi2
                  have db := dF _ (List.getElem_mem hi2)
                  have w1 : IntKind.i64.wrap (((0 + W.length + 1 + i : Nat) : Int) + 1) = ((0 + W.length + 1 + (i + 1) : Nat) : Int) := by rw [wrap_in (by omega)]; omega
                  repeat' first
                    | refine brP.tD (by omega) ?_
                    | refine ⟨InB.mk (by omega) (by omega), ?_⟩
                    | (apply Here.norm; (first | dsimp only [Env.putR, argEnv, pure1, newPtr, applyE, hset, List.length_cons, List.length_nil, List.length_append, List.set, List.cons_append, List.nil_append] | rfl); (first | dsimp only [Env.putR, argEnv, pure1, newPtr, applyE, hset, List.length_cons, List.length_nil, List.length_append, List.set, List.cons_append, List.nil_append] | rfl))
                    | fail
                  apply Again.mk (i + 1)
                  · omega
                  · omega
                  refine ⟨_, rfl, RT.of_eq ?_ rfl⟩
                  rw [w1]; rfl
                · obtain rfl : i = F.length := by omega
                  repeat' first
                    | refine brP.tD (by omega) ?_
                    | refine brP.fD (by omega) ?_
                    | refine ⟨SlB.mk (by omega) (by omega) (by omega), ?_⟩
                    | (apply Here.norm; (first | dsimp only [Env.putR, argEnv, pure1, newPtr, applyE, hset, List.length_cons, List.length_nil, List.length_append, List.set, List.cons_append, List.nil_append] | rfl); (first | dsimp only [Env.putR, argEnv, pure1, newPtr, applyE, hset, List.length_cons, List.length_nil, List.length_append, List.set, List.cons_append, List.nil_append] | rfl))
                    | refine ⟨_, _, _, _, _, rfl, rfl, rfl, Fits.mk (by first | exact Nat.le_of_ble_eq_true rfl | (dsimp only; omega)), rfl, ?_⟩
                    | refine ⟨_, _, _, _, _, rfl, Fits.mk (by first | exact Nat.le_of_ble_eq_true rfl | (dsimp only; omega)), _, rfl, ?_⟩
                    | refine ⟨by decide, ?_⟩
                    | fail
                  (rw [cF, decide_eq_false (by omega)]; rfl)
          · rw [decide_eq_true ⟨rfl, hF⟩] at tf
            rw [fin _ tf]
            refine PureF.E (CallP.of_body (C_ok W0) B.tumblerref02_Take rfl rfl rfl ?_)
            have fp : 0 < F.length := List.length_pos_iff.mpr hF
            rcases hp with ⟨rfl, rfl⟩ | ⟨rfl, rfl, hh⟩
            · have e0 : byteAt (bs l) 0 = 45 := by rw [el]; exact byteAt_bs (l := 45 :: (W ++ c :: r)) (i := 0) (by simp)
              rw [show ([45] : List UInt8).length = 1 from rfl] at ll eW cW eR eF cF eR2
              try rw [show ([45] : List UInt8).length = 1 from rfl] at e2
              repeat' first
                | refine brP.tD (by omega) ?_
                | refine ⟨InB.mk (by omega) (by omega), ?_⟩
                | (apply Here.norm; (first | dsimp only [Env.putR, argEnv, pure1, newPtr, applyE, hset, List.length_cons, List.length_nil, List.length_append, List.set, List.cons_append, List.nil_append] | rfl); (first | dsimp only [Env.putR, argEnv, pure1, newPtr, applyE, hset, List.length_cons, List.length_nil, List.length_append, List.set, List.cons_append, List.nil_append] | rfl))
                | refine ⟨_, _, _, _, _, rfl, rfl, rfl, Fits.mk (by first | exact Nat.le_of_ble_eq_true rfl | (dsimp only; omega)), rfl, ?_⟩
                | refine ⟨by decide, ?_⟩
                | fail
              refine loop_I (C_ok W0) (fun i : Nat => i ≤ W.length)
                (fun i => [(0, .string (bs l)), (2, .pointer (some ⟨0, 0, none⟩)), (3, .bool false), (4, .pointer (some ⟨1, 0, none⟩)), (5, .int .i64 ((1 + i : Nat) : Int)), (6, .int .i64 ((1 : Nat) : Int))])
                (fun i => [dcB false [] [], dcB true [] []]) (fun i => W.length - i) 0 (Nat.zero_le _) ⟨_, rfl, RT.of_eq rfl rfl⟩ ?_
              intro i g1
              dsimp only
              by_cases hi : i < W.length
              · have eb := eW i hi
                have db := dW _ (List.getElem_mem hi)
                have w1 : IntKind.i64.wrap (((1 + i : Nat) : Int) + 1) = ((1 + (i + 1) : Nat) : Int) := by rw [wrap_in (by omega)]; omega
                repeat' first
                  | refine brP.tD (by omega) ?_
                  | refine ⟨InB.mk (by omega) (by omega), ?_⟩
                  | (apply Here.norm; (first | dsimp only [Env.putR, argEnv, pure1, newPtr, applyE, hset, List.length_cons, List.length_nil, List.length_append, List.set, List.cons_append, List.nil_append] | rfl); (first | dsimp only [Env.putR, argEnv, pure1, newPtr, applyE, hset, List.length_cons, List.length_nil, List.length_append, List.set, List.cons_append, List.nil_append] | rfl))
                  | fail
                apply Again.mk (i + 1)
                · omega
                · omega
                refine ⟨_, rfl, RT.of_eq ?_ rfl⟩
                rw [w1]; rfl
              · obtain rfl : i = W.length := by omega
                have w5 : IntKind.i64.wrap (((1 + W.length : Nat) : Int) + 1) = ((1 + W.length + 1 : Nat) : Int) := by rw [wrap_in (by omega)]; omega
                repeat' first
                  | refine brP.tD (by omega) ?_
                  | refine brP.fD (by omega) ?_
                  | refine brP.fN (by omega) ?_
                  | refine ⟨InB.mk (by omega) (by omega), ?_⟩
                  | refine ⟨SlB.mk (by omega) (by omega) (by omega), ?_⟩
                  | (apply Here.norm; (first | dsimp only [Env.putR, argEnv, pure1, newPtr, applyE, hset, List.length_cons, List.length_nil, List.length_append, List.set, List.cons_append, List.nil_append] | rfl); (first | dsimp only [Env.putR, argEnv, pure1, newPtr, applyE, hset, List.length_cons, List.length_nil, List.length_append, List.set, List.cons_append, List.nil_append] | rfl))
                  | refine ⟨_, _, _, _, _, rfl, rfl, rfl, Fits.mk (by first | exact Nat.le_of_ble_eq_true rfl | (dsimp only; omega)), rfl, ?_⟩
                  | refine ⟨by decide, ?_⟩
                  | fail
                refine loop_I (C_ok W0) (fun i : Nat => i ≤ F.length)
                  (fun i => [(0, .string (bs l)), (2, .pointer (some ⟨0, 0, none⟩)), (3, .bool false), (4, .pointer (some ⟨1, 0, none⟩)), (5, .int .i64 ((1 + W.length + 1 + i : Nat) : Int)), (6, .int .i64 ((1 + W.length + 1 : Nat) : Int))])
                  (fun i => [dcB false [] [], dcB true W []]) (fun i => F.length - i) 0 (Nat.zero_le _) ⟨_, rfl, RT.of_eq (by rw [w5]; rfl) (by rw [cW]; rfl)⟩ ?_
                intro i g3
                try dsimp only
                by_cases hi2 : i < F.length
                · have eb := eF i hi2
                  have db := dF _ (List.getElem_mem hi2)
                  have w1 : IntKind.i64.wrap (((1 + W.length + 1 + i : Nat) : Int) + 1) = ((1 + W.length + 1 + (i + 1) : Nat) : Int) := by rw [wrap_in (by omega)]; omega
                  repeat' first
                    | refine brP.tD (by omega) ?_
                    | refine ⟨InB.mk (by omega) (by omega), ?_⟩
                    | (apply Here.norm; (first | dsimp only [Env.putR, argEnv, pure1, newPtr, applyE, hset, List.length_cons, List.length_nil, List.length_append, List.set, List.cons_append, List.nil_append] | rfl); (first | dsimp only [Env.putR, argEnv, pure1, newPtr, applyE, hset, List.length_cons, List.length_nil, List.length_append, List.set, List.cons_append, List.nil_append] | rfl))
                    | fail
                  apply Again.mk (i + 1)
                  · omega
                  · omega
                  refine ⟨_, rfl, RT.of_eq ?_ rfl⟩
                  rw [w1]; rfl
                · obtain rfl : i = F.length := by omega
                  repeat' first
                    | refine brP.tD (by omega) ?_
                    | refine brP.fD (by omega) ?_
                    | refine ⟨SlB.mk (by omega) (by omega) (by omega), ?_⟩
                    | (apply Here.norm; (first | dsimp only [Env.putR, argEnv, pure1, newPtr, applyE, hset, List.length_cons, List.length_nil, List.length_append, List.set, List.cons_append, List.nil_append] | rfl); (first | dsimp only [Env.putR, argEnv, pure1, newPtr, applyE, hset, List.length_cons, List.length_nil, List.length_append, List.set, List.cons_append, List.nil_append] | rfl))
                    | refine ⟨_, _, _, _, _, rfl, rfl, rfl, Fits.mk (by first | exact Nat.le_of_ble_eq_true rfl | (dsimp only; omega)), rfl, ?_⟩
                    | refine ⟨_, _, _, _, _, rfl, Fits.mk (by first | exact Nat.le_of_ble_eq_true rfl | (dsimp only; omega)), _, rfl, ?_⟩
                    | refine ⟨by decide, ?_⟩
                    | fail
                  (rw [cF, decide_eq_true (by omega)]; rfl)
            · rw [show ([] : List UInt8).length = 0 from rfl] at ll eW cW eR eF cF eR2
              try rw [show ([] : List UInt8).length = 0 from rfl] at e2
              have z45 := z45 hh l0
              repeat' first
                | refine brP.tD (by omega) ?_
                | refine brP.fD (by omega) ?_
                | refine ⟨InB.mk (by omega) (by omega), ?_⟩
                | (apply Here.norm; (first | dsimp only [Env.putR, argEnv, pure1, newPtr, applyE, hset, List.length_cons, List.length_nil, List.length_append, List.set, List.cons_append, List.nil_append] | rfl); (first | dsimp only [Env.putR, argEnv, pure1, newPtr, applyE, hset, List.length_cons, List.length_nil, List.length_append, List.set, List.cons_append, List.nil_append] | rfl))
                | refine ⟨_, _, _, _, _, rfl, rfl, rfl, Fits.mk (by first | exact Nat.le_of_ble_eq_true rfl | (dsimp only; omega)), rfl, ?_⟩
                | fail
              refine loop_I (C_ok W0) (fun i : Nat => i ≤ W.length)
                (fun i => [(0, .string (bs l)), (2, .pointer (some ⟨0, 0, none⟩)), (3, .bool false), (4, .pointer (some ⟨1, 0, none⟩)), (5, .int .i64 ((0 + i : Nat) : Int)), (6, .int .i64 ((0 : Nat) : Int))])
                (fun i => [dcB false [] [], dcB false [] []]) (fun i => W.length - i) 0 (Nat.zero_le _) ⟨_, rfl, RT.of_eq rfl rfl⟩ ?_
              intro i g1
              dsimp only
              by_cases hi : i < W.length
              · have eb := eW i hi
                have db := dW _ (List.getElem_mem hi)
                have w1 : IntKind.i64.wrap (((0 + i : Nat) : Int) + 1) = ((0 + (i + 1) : Nat) : Int) := by rw [wrap_in (by omega)]; omega
                repeat' first
                  | refine brP.tD (by omega) ?_
                  | refine ⟨InB.mk (by omega) (by omega), ?_⟩
                  | (apply Here.norm; (first | dsimp only [Env.putR, argEnv, pure1, newPtr, applyE, hset, List.length_cons, List.length_nil, List.length_append, List.set, List.cons_append, List.nil_append] | rfl); (first | dsimp only [Env.putR, argEnv, pure1, newPtr, applyE, hset, List.length_cons, List.length_nil, List.length_append, List.set, List.cons_append, List.nil_append] | rfl))
                  | fail
                apply Again.mk (i + 1)
                · omega
                · omega
                refine ⟨_, rfl, RT.of_eq ?_ rfl⟩
                rw [w1]; rfl
              · obtain rfl : i = W.length := by omega
                have w5 : IntKind.i64.wrap (((0 + W.length : Nat) : Int) + 1) = ((0 + W.length + 1 : Nat) : Int) := by rw [wrap_in (by omega)]; omega
                repeat' first
                  | refine brP.tD (by omega) ?_
                  | refine brP.fD (by omega) ?_
                  | refine brP.fN (by omega) ?_
                  | refine ⟨InB.mk (by omega) (by omega), ?_⟩
                  | refine ⟨SlB.mk (by omega) (by omega) (by omega), ?_⟩
                  | (apply Here.norm; (first | dsimp only [Env.putR, argEnv, pure1, newPtr, applyE, hset, List.length_cons, List.length_nil, List.length_append, List.set, List.cons_append, List.nil_append] | rfl); (first | dsimp only [Env.putR, argEnv, pure1, newPtr, applyE, hset, List.length_cons, List.length_nil, List.length_append, List.set, List.cons_append, List.nil_append] | rfl))
                  | refine ⟨_, _, _, _, _, rfl, rfl, rfl, Fits.mk (by first | exact Nat.le_of_ble_eq_true rfl | (dsimp only; omega)), rfl, ?_⟩
                  | refine ⟨by decide, ?_⟩
                  | fail
                refine loop_I (C_ok W0) (fun i : Nat => i ≤ F.length)
                  (fun i => [(0, .string (bs l)), (2, .pointer (some ⟨0, 0, none⟩)), (3, .bool false), (4, .pointer (some ⟨1, 0, none⟩)), (5, .int .i64 ((0 + W.length + 1 + i : Nat) : Int)), (6, .int .i64 ((0 + W.length + 1 : Nat) : Int))])
                  (fun i => [dcB false [] [], dcB false W []]) (fun i => F.length - i) 0 (Nat.zero_le _) ⟨_, rfl, RT.of_eq (by rw [w5]; rfl) (by rw [cW]; rfl)⟩ ?_
                intro i g3
                try dsimp only
                by_cases hi2 : i < F.length
                · have eb := eF i hi2
                  have db := dF _ (List.getElem_mem hi2)
                  have w1 : IntKind.i64.wrap (((0 + W.length + 1 + i : Nat) : Int) + 1) = ((0 + W.length + 1 + (i + 1) : Nat) : Int) := by rw [wrap_in (by omega)]; omega
                  repeat' first
                    | refine brP.tD (by omega) ?_
                    | refine ⟨InB.mk (by omega) (by omega), ?_⟩
                    | (apply Here.norm; (first | dsimp only [Env.putR, argEnv, pure1, newPtr, applyE, hset, List.length_cons, List.length_nil, List.length_append, List.set, List.cons_append, List.nil_append] | rfl); (first | dsimp only [Env.putR, argEnv, pure1, newPtr, applyE, hset, List.length_cons, List.length_nil, List.length_append, List.set, List.cons_append, List.nil_append] | rfl))
                    | fail
                  apply Again.mk (i + 1)
                  · omega
                  · omega
                  refine ⟨_, rfl, RT.of_eq ?_ rfl⟩
                  rw [w1]; rfl
                · obtain rfl : i = F.length := by omega
                  repeat' first
                    | refine brP.tD (by omega) ?_
                    | refine brP.fD (by omega) ?_
                    | refine ⟨SlB.mk (by omega) (by omega) (by omega), ?_⟩
                    | (apply Here.norm; (first | dsimp only [Env.putR, argEnv, pure1, newPtr, applyE, hset, List.length_cons, List.length_nil, List.length_append, List.set, List.cons_append, List.nil_append] | rfl); (first | dsimp only [Env.putR, argEnv, pure1, newPtr, applyE, hset, List.length_cons, List.length_nil, List.length_append, List.set, List.cons_append, List.nil_append] | rfl))
                    | refine ⟨_, _, _, _, _, rfl, rfl, rfl, Fits.mk (by first | exact Nat.le_of_ble_eq_true rfl | (dsimp only; omega)), rfl, ?_⟩
                    | refine ⟨_, _, _, _, _, rfl, Fits.mk (by first | exact Nat.le_of_ble_eq_true rfl | (dsimp only; omega)), _, rfl, ?_⟩
                    | refine ⟨by decide, ?_⟩
                    | fail
                  (rw [cF, decide_eq_true (by omega)]; rfl)
        | cons c2 t2 =>
          have lF : r.length = F.length + (t2.length + 1) := lF
          have e2 := eR2 c2 t2 rfl
          have h2 := isd_no (hd2 c2 t2 rfl)
          rw [decide_eq_false (fun z => by cases z.1)] at tf
          rw [fin _ tf]
          refine PureF.E (CallP.of_body (C_ok W0) B.tumblerref02_Take rfl rfl rfl ?_)
          by_cases lo2 : c2.toNat < 48
          ·
            rcases hp with ⟨rfl, rfl⟩ | ⟨rfl, rfl, hh⟩
            · have e0 : byteAt (bs l) 0 = 45 := by rw [el]; exact byteAt_bs (l := 45 :: (W ++ c :: r)) (i := 0) (by simp)
              rw [show ([45] : List UInt8).length = 1 from rfl] at ll eW cW eR eF cF eR2
              try rw [show ([45] : List UInt8).length = 1 from rfl] at e2
              repeat' first
                | refine brP.tD (by omega) ?_
                | refine ⟨InB.mk (by omega) (by omega), ?_⟩
                | (apply Here.norm; (first | dsimp only [Env.putR, argEnv, pure1, newPtr, applyE, hset, List.length_cons, List.length_nil, List.length_append, List.set, List.cons_append, List.nil_append] | rfl); (first | dsimp only [Env.putR, argEnv, pure1, newPtr, applyE, hset, List.length_cons, List.length_nil, List.length_append, List.set, List.cons_append, List.nil_append] | rfl))
                | refine ⟨_, _, _, _, _, rfl, rfl, rfl, Fits.mk (by first | exact Nat.le_of_ble_eq_true rfl | (dsimp only; omega)), rfl, ?_⟩
                | refine ⟨by decide, ?_⟩
                | fail
              refine loop_I (C_ok W0) (fun i : Nat => i ≤ W.length)
                (fun i => [(0, .string (bs l)), (2, .pointer (some ⟨0, 0, none⟩)), (3, .bool false), (4, .pointer (some ⟨1, 0, none⟩)), (5, .int .i64 ((1 + i : Nat) : Int)), (6, .int .i64 ((1 : Nat) : Int))])
                (fun i => [dcB false [] [], dcB true [] []]) (fun i => W.length - i) 0 (Nat.zero_le _) ⟨_, rfl, RT.of_eq rfl rfl⟩ ?_
              intro i g1
              dsimp only
              by_cases hi : i < W.length
              · have eb := eW i hi
                have db := dW _ (List.getElem_mem hi)
                have w1 : IntKind.i64.wrap (((1 + i : Nat) : Int) + 1) = ((1 + (i + 1) : Nat) : Int) := by rw [wrap_in (by omega)]; omega
                repeat' first
                  | refine brP.tD (by omega) ?_
                  | refine ⟨InB.mk (by omega) (by omega), ?_⟩
                  | (apply Here.norm; (first | dsimp only [Env.putR, argEnv, pure1, newPtr, applyE, hset, List.length_cons, List.length_nil, List.length_append, List.set, List.cons_append, List.nil_append] | rfl); (first | dsimp only [Env.putR, argEnv, pure1, newPtr, applyE, hset, List.length_cons, List.length_nil, List.length_append, List.set, List.cons_append, List.nil_append] | rfl))
                  | fail
                apply Again.mk (i + 1)
                · omega
                · omega
                refine ⟨_, rfl, RT.of_eq ?_ rfl⟩
                rw [w1]; rfl
              · obtain rfl : i = W.length := by omega
                have w5 : IntKind.i64.wrap (((1 + W.length : Nat) : Int) + 1) = ((1 + W.length + 1 : Nat) : Int) := by rw [wrap_in (by omega)]; omega
                repeat' first
                  | refine brP.tD (by omega) ?_
                  | refine brP.fD (by omega) ?_
                  | refine brP.fN (by omega) ?_
                  | refine ⟨InB.mk (by omega) (by omega), ?_⟩
                  | refine ⟨SlB.mk (by omega) (by omega) (by omega), ?_⟩
                  | (apply Here.norm; (first | dsimp only [Env.putR, argEnv, pure1, newPtr, applyE, hset, List.length_cons, List.length_nil, List.length_append, List.set, List.cons_append, List.nil_append] | rfl); (first | dsimp only [Env.putR, argEnv, pure1, newPtr, applyE, hset, List.length_cons, List.length_nil, List.length_append, List.set, List.cons_append, List.nil_append] | rfl))
                  | refine ⟨_, _, _, _, _, rfl, rfl, rfl, Fits.mk (by first | exact Nat.le_of_ble_eq_true rfl | (dsimp only; omega)), rfl, ?_⟩
                  | refine ⟨by decide, ?_⟩
                  | fail
                refine loop_I (C_ok W0) (fun i : Nat => i ≤ F.length)
                  (fun i => [(0, .string (bs l)), (2, .pointer (some ⟨0, 0, none⟩)), (3, .bool false), (4, .pointer (some ⟨1, 0, none⟩)), (5, .int .i64 ((1 + W.length + 1 + i : Nat) : Int)), (6, .int .i64 ((1 + W.length + 1 : Nat) : Int))])
                  (fun i => [dcB false [] [], dcB true W []]) (fun i => F.length - i) 0 (Nat.zero_le _) ⟨_, rfl, RT.of_eq (by rw [w5]; rfl) (by rw [cW]; rfl)⟩ ?_
                intro i g3
                try dsimp only
                by_cases hi2 : i < F.length
                · have eb := eF i hi2
                  have db := dF _ (List.getElem_mem hi2)
                  have w1 : IntKind.i64.wrap (((1 + W.length + 1 + i : Nat) : Int) + 1) = ((1 + W.length + 1 + (i + 1) : Nat) : Int) := by rw [wrap_in (by omega)]; omega
                  repeat' first
                    | refine brP.tD (by omega) ?_
                    | refine ⟨InB.mk (by omega) (by omega), ?_⟩
                    | (apply Here.norm; (first | dsimp only [Env.putR, argEnv, pure1, newPtr, applyE, hset, List.length_cons, List.length_nil, List.length_append, List.set, List.cons_append, List.nil_append] | rfl); (first | dsimp only [Env.putR, argEnv, pure1, newPtr, applyE, hset, List.length_cons, List.length_nil, List.length_append, List.set, List.cons_append, List.nil_append] | rfl))
                    | fail
                  apply Again.mk (i + 1)
                  · omega
                  · omega
                  refine ⟨_, rfl, RT.of_eq ?_ rfl⟩
                  rw [w1]; rfl
                · obtain rfl : i = F.length := by omega
                  repeat' first
                    | refine brP.tD (by omega) ?_
                    | refine brP.fD (by omega) ?_
                    | refine ⟨InB.mk (by omega) (by omega), ?_⟩
                    | refine ⟨SlB.mk (by omega) (by omega) (by omega), ?_⟩
                    | (apply Here.norm; (first | dsimp only [Env.putR, argEnv, pure1, newPtr, applyE, hset, List.length_cons, List.length_nil, List.length_append, List.set, List.cons_append, List.nil_append] | rfl); (first | dsimp only [Env.putR, argEnv, pure1, newPtr, applyE, hset, List.length_cons, List.length_nil, List.length_append, List.set, List.cons_append, List.nil_append] | rfl))
                    | refine ⟨_, _, _, _, _, rfl, rfl, rfl, Fits.mk (by first | exact Nat.le_of_ble_eq_true rfl | (dsimp only; omega)), rfl, ?_⟩
                    | refine ⟨_, _, _, _, _, rfl, Fits.mk (by first | exact Nat.le_of_ble_eq_true rfl | (dsimp only; omega)), _, rfl, ?_⟩
                    | refine ⟨by decide, ?_⟩
                    | fail
                  (rw [cF]; rfl)
            · rw [show ([] : List UInt8).length = 0 from rfl] at ll eW cW eR eF cF eR2
              try rw [show ([] : List UInt8).length = 0 from rfl] at e2
              have z45 := z45 hh l0
              repeat' first
                | refine brP.tD (by omega) ?_
                | refine brP.fD (by omega) ?_
                | refine ⟨InB.mk (by omega) (by omega), ?_⟩
                | (apply Here.norm; (first | dsimp only [Env.putR, argEnv, pure1, newPtr, applyE, hset, List.length_cons, List.length_nil, List.length_append, List.set, List.cons_append, List.nil_append] | rfl); (first | dsimp only [Env.putR, argEnv, pure1, newPtr, applyE, hset, List.length_cons, List.length_nil, List.length_append, List.set, List.cons_append, List.nil_append] | rfl))
                | refine ⟨_, _, _, _, _, rfl, rfl, rfl, Fits.mk (by first | exact Nat.le_of_ble_eq_true rfl | (dsimp only; omega)), rfl, ?_⟩
                | fail
              refine loop_I (C_ok W0) (fun i : Nat => i ≤ W.length)
                (fun i => [(0, .string (bs l)), (2, .pointer (some ⟨0, 0, none⟩)), (3, .bool false), (4, .pointer (some ⟨1, 0, none⟩)), (5, .int .i64 ((0 + i : Nat) : Int)), (6, .int .i64 ((0 : Nat) : Int))])
                (fun i => [dcB false [] [], dcB false [] []]) (fun i => W.length - i) 0 (Nat.zero_le _) ⟨_, rfl, RT.of_eq rfl rfl⟩ ?_
              intro i g1
              dsimp only
              by_cases hi : i < W.length
              · have eb := eW i hi
                have db := dW _ (List.getElem_mem hi)
                have w1 : IntKind.i64.wrap (((0 + i : Nat) : Int) + 1) = ((0 + (i + 1) : Nat) : Int) := by rw [wrap_in (by omega)]; omega
                repeat' first
                  | refine brP.tD (by omega) ?_
                  | refine ⟨InB.mk (by omega) (by omega), ?_⟩
                  | (apply Here.norm; (first | dsimp only [Env.putR, argEnv, pure1, newPtr, applyE, hset, List.length_cons, List.length_nil, List.length_append, List.set, List.cons_append, List.nil_append] | rfl); (first | dsimp only [Env.putR, argEnv, pure1, newPtr, applyE, hset, List.length_cons, List.length_nil, List.length_append, List.set, List.cons_append, List.nil_append] | rfl))
                  | fail
                apply Again.mk (i + 1)
                · omega
                · omega
                refine ⟨_, rfl, RT.of_eq ?_ rfl⟩
                rw [w1]; rfl
              · obtain rfl : i = W.length := by omega
                have w5 : IntKind.i64.wrap (((0 + W.length : Nat) : Int) + 1) = ((0 + W.length + 1 : Nat) : Int) := by rw [wrap_in (by omega)]; omega
                repeat' first
                  | refine brP.tD (by omega) ?_
                  | refine brP.fD (by omega) ?_
                  | refine brP.fN (by omega) ?_
                  | refine ⟨InB.mk (by omega) (by omega), ?_⟩
                  | refine ⟨SlB.mk (by omega) (by omega) (by omega), ?_⟩
                  | (apply Here.norm; (first | dsimp only [Env.putR, argEnv, pure1, newPtr, applyE, hset, List.length_cons, List.length_nil, List.length_append, List.set, List.cons_append, List.nil_append] | rfl); (first | dsimp only [Env.putR, argEnv, pure1, newPtr, applyE, hset, List.length_cons, List.length_nil, List.length_append, List.set, List.cons_append, List.nil_append] | rfl))
                  | refine ⟨_, _, _, _, _, rfl, rfl, rfl, Fits.mk (by first | exact Nat.le_of_ble_eq_true rfl | (dsimp only; omega)), rfl, ?_⟩
                  | refine ⟨by decide, ?_⟩
                  | fail
                refine loop_I (C_ok W0) (fun i : Nat => i ≤ F.length)
                  (fun i => [(0, .string (bs l)), (2, .pointer (some ⟨0, 0, none⟩)), (3, .bool false), (4, .pointer (some ⟨1, 0, none⟩)), (5, .int .i64 ((0 + W.length + 1 + i : Nat) : Int)), (6, .int .i64 ((0 + W.length + 1 : Nat) : Int))])
                  (fun i => [dcB false [] [], dcB false W []]) (fun i => F.length - i) 0 (Nat.zero_le _) ⟨_, rfl, RT.of_eq (by rw [w5]; rfl) (by rw [cW]; rfl)⟩ ?_
                intro i g3
                try dsimp only
                by_cases hi2 : i < F.length
                · have eb := eF i hi2
                  have db := dF _ (List.getElem_mem hi2)
                  have w1 : IntKind.i64.wrap (((0 + W.length + 1 + i : Nat) : Int) + 1) = ((0 + W.length + 1 + (i + 1) : Nat) : Int) := by rw [wrap_in (by omega)]; omega
                  repeat' first
                    | refine brP.tD (by omega) ?_
                    | refine ⟨InB.mk (by omega) (by omega), ?_⟩
                    | (apply Here.norm; (first | dsimp only [Env.putR, argEnv, pure1, newPtr, applyE, hset, List.length_cons, List.length_nil, List.length_append, List.set, List.cons_append, List.nil_append] | rfl); (first | dsimp only [Env.putR, argEnv, pure1, newPtr, applyE, hset, List.length_cons, List.length_nil, List.length_append, List.set, List.cons_append, List.nil_append] | rfl))
                    | fail
                  apply Again.mk (i + 1)
                  · omega
                  · omega
                  refine ⟨_, rfl, RT.of_eq ?_ rfl⟩
                  rw [w1]; rfl
                · obtain rfl : i = F.length := by omega
                  repeat' first
                    | refine brP.tD (by omega) ?_
                    | refine brP.fD (by omega) ?_
                    | refine ⟨InB.mk (by omega) (by omega), ?_⟩
                    | refine ⟨SlB.mk (by omega) (by omega) (by omega), ?_⟩
                    | (apply Here.norm; (first | dsimp only [Env.putR, argEnv, pure1, newPtr, applyE, hset, List.length_cons, List.length_nil, List.length_append, List.set, List.cons_append, List.nil_append] | rfl); (first | dsimp only [Env.putR, argEnv, pure1, newPtr, applyE, hset, List.length_cons, List.length_nil, List.length_append, List.set, List.cons_append, List.nil_append] | rfl))
                    | refine ⟨_, _, _, _, _, rfl, rfl, rfl, Fits.mk (by first | exact Nat.le_of_ble_eq_true rfl | (dsimp only; omega)), rfl, ?_⟩
                    | refine ⟨_, _, _, _, _, rfl, Fits.mk (by first | exact Nat.le_of_ble_eq_true rfl | (dsimp only; omega)), _, rfl, ?_⟩
                    | refine ⟨by decide, ?_⟩
                    | fail
                  (rw [cF]; rfl)
          ·
            rcases hp with ⟨rfl, rfl⟩ | ⟨rfl, rfl, hh⟩
            · have e0 : byteAt (bs l) 0 = 45 := by rw [el]; exact byteAt_bs (l := 45 :: (W ++ c :: r)) (i := 0) (by simp)
              rw [show ([45] : List UInt8).length = 1 from rfl] at ll eW cW eR eF cF eR2
              try rw [show ([45] : List UInt8).length = 1 from rfl] at e2
              repeat' first
                | refine brP.tD (by omega) ?_
                | refine ⟨InB.mk (by omega) (by omega), ?_⟩
                | (apply Here.norm; (first | dsimp only [Env.putR, argEnv, pure1, newPtr, applyE, hset, List.length_cons, List.length_nil, List.length_append, List.set, List.cons_append, List.nil_append] | rfl); (first | dsimp only [Env.putR, argEnv, pure1, newPtr, applyE, hset, List.length_cons, List.length_nil, List.length_append, List.set, List.cons_append, List.nil_append] | rfl))
                | refine ⟨_, _, _, _, _, rfl, rfl, rfl, Fits.mk (by first | exact Nat.le_of_ble_eq_true rfl | (dsimp only; omega)), rfl, ?_⟩
                | refine ⟨by decide, ?_⟩
                | fail
              refine loop_I (C_ok W0) (fun i : Nat => i ≤ W.length)
                (fun i => [(0, .string (bs l)), (2, .pointer (some ⟨0, 0, none⟩)), (3, .bool false), (4, .pointer (some ⟨1, 0, none⟩)), (5, .int .i64 ((1 + i : Nat) : Int)), (6, .int .i64 ((1 : Nat) : Int))])
                (fun i => [dcB false [] [], dcB true [] []]) (fun i => W.length - i) 0 (Nat.zero_le _) ⟨_, rfl, RT.of_eq rfl rfl⟩ ?_
              intro i g1
              dsimp only
              by_cases hi : i < W.length
              · have eb := eW i hi
                have db := dW _ (List.getElem_mem hi)
                have w1 : IntKind.i64.wrap (((1 + i : Nat) : Int) + 1) = ((1 + (i + 1) : Nat) : Int) := by rw [wrap_in (by omega)]; omega
                repeat' first
                  | refine brP.tD (by omega) ?_
                  | refine ⟨InB.mk (by omega) (by omega), ?_⟩
                  | (apply Here.norm; (first | dsimp only [Env.putR, argEnv, pure1, newPtr, applyE, hset, List.length_cons, List.length_nil, List.length_append, List.set, List.cons_append, List.nil_append] | rfl); (first | dsimp only [Env.putR, argEnv, pure1, newPtr, applyE, hset, List.length_cons, List.length_nil, List.length_append, List.set, List.cons_append, List.nil_append] | rfl))
                  | fail
                apply Again.mk (i + 1)
                · omega
                · omega
                refine ⟨_, rfl, RT.of_eq ?_ rfl⟩
                rw [w1]; rfl
              · obtain rfl : i = W.length := by omega
                have w5 : IntKind.i64.wrap (((1 + W.length : Nat) : Int) + 1) = ((1 + W.length + 1 : Nat) : Int) := by rw [wrap_in (by omega)]; omega
                repeat' first
                  | refine brP.tD (by omega) ?_
                  | refine brP.fD (by omega) ?_
                  | refine brP.fN (by omega) ?_
                  | refine ⟨InB.mk (by omega) (by omega), ?_⟩
                  | refine ⟨SlB.mk (by omega) (by omega) (by omega), ?_⟩
                  | (apply Here.norm; (first | dsimp only [Env.putR, argEnv, pure1, newPtr, applyE, hset, List.length_cons, List.length_nil, List.length_append, List.set, List.cons_append, List.nil_append] | rfl); (first | dsimp only [Env.putR, argEnv, pure1, newPtr, applyE, hset, List.length_cons, List.length_nil, List.length_append, List.set, List.cons_append, List.nil_append] | rfl))
                  | refine ⟨_, _, _, _, _, rfl, rfl, rfl, Fits.mk (by first | exact Nat.le_of_ble_eq_true rfl | (dsimp only; omega)), rfl, ?_⟩
                  | refine ⟨by decide, ?_⟩
                  | fail
                refine loop_I (C_ok W0) (fun i : Nat => i ≤ F.length)
                  (fun i => [(0, .string (bs l)), (2, .pointer (some ⟨0, 0, none⟩)), (3, .bool false), (4, .pointer (some ⟨1, 0, none⟩)), (5, .int .i64 ((1 + W.length + 1 + i : Nat) : Int)), (6, .int .i64 ((1 + W.length + 1 : Nat) : Int))])
                  (fun i => [dcB false [] [], dcB true W []]) (fun i => F.length - i) 0 (Nat.zero_le _) ⟨_, rfl, RT.of_eq (by rw [w5]; rfl) (by rw [cW]; rfl)⟩ ?_
                intro i g3
                try dsimp only
                by_cases hi2 : i < F.length
                · have eb := eF i hi2
                  have db := dF _ (List.getElem_mem hi2)
                  have w1 : IntKind.i64.wrap (((1 + W.length + 1 + i : Nat) : Int) + 1) = ((1 + W.length + 1 + (i + 1) : Nat) : Int) := by rw [wrap_in (by omega)]; omega
                  repeat' first
                    | refine brP.tD (by omega) ?_
                    | refine ⟨InB.mk (by omega) (by omega), ?_⟩
                    | (apply Here.norm; (first | dsimp only [Env.putR, argEnv, pure1, newPtr, applyE, hset, List.length_cons, List.length_nil, List.length_append, List.set, List.cons_append, List.nil_append] | rfl); (first | dsimp only [Env.putR, argEnv, pure1, newPtr, applyE, hset, List.length_cons, List.length_nil, List.length_append, List.set, List.cons_append, List.nil_append] | rfl))
                    | fail
                  apply Again.mk (i + 1)
                  · omega
                  · omega
                  refine ⟨_, rfl, RT.of_eq ?_ rfl⟩
                  rw [w1]; rfl
                · obtain rfl : i = F.length := by omega
                  repeat' first
                    | refine brP.tD (by omega) ?_
                    | refine brP.fD (by omega) ?_
                    | refine ⟨InB.mk (by omega) (by omega), ?_⟩
                    | refine ⟨SlB.mk (by omega) (by omega) (by omega), ?_⟩
                    | (apply Here.norm; (first | dsimp only [Env.putR, argEnv, pure1, newPtr, applyE, hset, List.length_cons, List.length_nil, List.length_append, List.set, List.cons_append, List.nil_append] | rfl); (first | dsimp only [Env.putR, argEnv, pure1, newPtr, applyE, hset, List.length_cons, List.length_nil, List.length_append, List.set, List.cons_append, List.nil_append] | rfl))
                    | refine ⟨_, _, _, _, _, rfl, rfl, rfl, Fits.mk (by first | exact Nat.le_of_ble_eq_true rfl | (dsimp only; omega)), rfl, ?_⟩
                    | refine ⟨_, _, _, _, _, rfl, Fits.mk (by first | exact Nat.le_of_ble_eq_true rfl | (dsimp only; omega)), _, rfl, ?_⟩
                    | refine ⟨by decide, ?_⟩
                    | fail
                  (rw [cF]; rfl)
            · rw [show ([] : List UInt8).length = 0 from rfl] at ll eW cW eR eF cF eR2
              try rw [show ([] : List UInt8).length = 0 from rfl] at e2
              have z45 := z45 hh l0
              repeat' first
                | refine brP.tD (by omega) ?_
                | refine brP.fD (by omega) ?_
                | refine ⟨InB.mk (by omega) (by omega), ?_⟩
                | (apply Here.norm; (first | dsimp only [Env.putR, argEnv, pure1, newPtr, applyE, hset, List.length_cons, List.length_nil, List.length_append, List.set, List.cons_append, List.nil_append] | rfl); (first | dsimp only [Env.putR, argEnv, pure1, newPtr, applyE, hset, List.length_cons, List.length_nil, List.length_append, List.set, List.cons_append, List.nil_append] | rfl))
                | refine ⟨_, _, _, _, _, rfl, rfl, rfl, Fits.mk (by first | exact Nat.le_of_ble_eq_true rfl | (dsimp only; omega)), rfl, ?_⟩
                | fail
              refine loop_I (C_ok W0) (fun i : Nat => i ≤ W.length)
                (fun i => [(0, .string (bs l)), (2, .pointer (some ⟨0, 0, none⟩)), (3, .bool false), (4, .pointer (some ⟨1, 0, none⟩)), (5, .int .i64 ((0 + i : Nat) : Int)), (6, .int .i64 ((0 : Nat) : Int))])
                (fun i => [dcB false [] [], dcB false [] []]) (fun i => W.length - i) 0 (Nat.zero_le _) ⟨_, rfl, RT.of_eq rfl rfl⟩ ?_
              intro i g1
              dsimp only
              by_cases hi : i < W.length
              · have eb := eW i hi
                have db := dW _ (List.getElem_mem hi)
                have w1 : IntKind.i64.wrap (((0 + i : Nat) : Int) + 1) = ((0 + (i + 1) : Nat) : Int) := by rw [wrap_in (by omega)]; omega
                repeat' first
                  | refine brP.tD (by omega) ?_
                  | refine ⟨InB.mk (by omega) (by omega), ?_⟩
                  | (apply Here.norm; (first | dsimp only [Env.putR, argEnv, pure1, newPtr, applyE, hset, List.length_cons, List.length_nil, List.length_append, List.set, List.cons_append, List.nil_append] | rfl); (first | dsimp only [Env.putR, argEnv, pure1, newPtr, applyE, hset, List.length_cons, List.length_nil, List.length_append, List.set, List.cons_append, List.nil_append] | rfl))
                  | fail
                apply Again.mk (i + 1)
                · omega
                · omega
                refine ⟨_, rfl, RT.of_eq ?_ rfl⟩
                rw [w1]; rfl
              · obtain rfl : i = W.length := by omega
                have w5 : IntKind.i64.wrap (((0 + W.length : Nat) : Int) + 1) = ((0 + W.length + 1 : Nat) : Int) := by rw [wrap_in (by omega)]; omega
                repeat' first
                  | refine brP.tD (by omega) ?_
                  | refine brP.fD (by omega) ?_
                  | refine brP.fN (by omega) ?_
                  | refine ⟨InB.mk (by omega) (by omega), ?_⟩
                  | refine ⟨SlB.mk (by omega) (by omega) (by omega), ?_⟩
                  | (apply Here.norm; (first | dsimp only [Env.putR, argEnv, pure1, newPtr, applyE, hset, List.length_cons, List.length_nil, List.length_append, List.set, List.cons_append, List.nil_append] | rfl); (first | dsimp only [Env.putR, argEnv, pure1, newPtr, applyE, hset, List.length_cons, List.length_nil, List.length_append, List.set, List.cons_append, List.nil_append] | rfl))
                  | refine ⟨_, _, _, _, _, rfl, rfl, rfl, Fits.mk (by first | exact Nat.le_of_ble_eq_true rfl | (dsimp only; omega)), rfl, ?_⟩
                  | refine ⟨by decide, ?_⟩
                  | fail
                refine loop_I (C_ok W0) (fun i : Nat => i ≤ F.length)
                  (fun i => [(0, .string (bs l)), (2, .pointer (some ⟨0, 0, none⟩)), (3, .bool false), (4, .pointer (some ⟨1, 0, none⟩)), (5, .int .i64 ((0 + W.length + 1 + i : Nat) : Int)), (6, .int .i64 ((0 + W.length + 1 : Nat) : Int))])
                  (fun i => [dcB false [] [], dcB false W []]) (fun i => F.length - i) 0 (Nat.zero_le _) ⟨_, rfl, RT.of_eq (by rw [w5]; rfl) (by rw [cW]; rfl)⟩ ?_
                intro i g3
                try dsimp only
                by_cases hi2 : i < F.length
                · have eb := eF i hi2
                  have db := dF _ (List.getElem_mem hi2)
                  have w1 : IntKind.i64.wrap (((0 + W.length + 1 + i : Nat) : Int) + 1) = ((0 + W.length + 1 + (i + 1) : Nat) : Int) := by rw [wrap_in (by omega)]; omega
                  repeat' first
                    | refine brP.tD (by omega) ?_
                    | refine ⟨InB.mk (by omega) (by omega), ?_⟩
                    | (apply Here.norm; (first | dsimp only [Env.putR, argEnv, pure1, newPtr, applyE, hset, List.length_cons, List.length_nil, List.length_append, List.set, List.cons_append, List.nil_append] | rfl); (first | dsimp only [Env.putR, argEnv, pure1, newPtr, applyE, hset, List.length_cons, List.length_nil, List.length_append, List.set, List.cons_append, List.nil_append] | rfl))
                    | fail
                  apply Again.mk (i + 1)
                  · omega
                  · omega
                  refine ⟨_, rfl, RT.of_eq ?_ rfl⟩
                  rw [w1]; rfl
                · obtain rfl : i = F.length := by omega
                  repeat' first
                    | refine brP.tD (by omega) ?_
                    | refine brP.fD (by omega) ?_
                    | refine ⟨InB.mk (by omega) (by omega), ?_⟩
                    | refine ⟨SlB.mk (by omega) (by omega) (by omega), ?_⟩
                    | (apply Here.norm; (first | dsimp only [Env.putR, argEnv, pure1, newPtr, applyE, hset, List.length_cons, List.length_nil, List.length_append, List.set, List.cons_append, List.nil_append] | rfl); (first | dsimp only [Env.putR, argEnv, pure1, newPtr, applyE, hset, List.length_cons, List.length_nil, List.length_append, List.set, List.cons_append, List.nil_append] | rfl))
                    | refine ⟨_, _, _, _, _, rfl, rfl, rfl, Fits.mk (by first | exact Nat.le_of_ble_eq_true rfl | (dsimp only; omega)), rfl, ?_⟩
                    | refine ⟨_, _, _, _, _, rfl, Fits.mk (by first | exact Nat.le_of_ble_eq_true rfl | (dsimp only; omega)), _, rfl, ?_⟩
                    | refine ⟨by decide, ?_⟩
                    | fail
                  (rw [cF]; rfl)
      · have c46 : (c.toNat : Int) ≠ 46 := fun h => h46 (UInt8.toNat_inj.mp (by rw [show (46 : UInt8).toNat = 46 from rfl]; omega))
        rw [if_neg h46] at tf
        rw [fin _ tf]
        refine PureF.E (CallP.of_body (C_ok W0) B.tumblerref02_Take rfl rfl rfl ?_)
        rcases hp with ⟨rfl, rfl⟩ | ⟨rfl, rfl, hh⟩
        · have e0 : byteAt (bs l) 0 = 45 := by rw [el]; exact byteAt_bs (l := 45 :: (W ++ c :: r)) (i := 0) (by simp)
          rw [show ([45] : List UInt8).length = 1 from rfl] at ll eW cW eR eF cF eR2
          try rw [show ([45] : List UInt8).length = 1 from rfl] at e2
          repeat' first
            | refine brP.tD (by omega) ?_
            | refine ⟨InB.mk (by omega) (by omega), ?_⟩
            | (apply Here.norm; (first | dsimp only [Env.putR, argEnv, pure1, newPtr, applyE, hset, List.length_cons, List.length_nil, List.length_append, List.set, List.cons_append, List.nil_append] | rfl); (first | dsimp only [Env.putR, argEnv, pure1, newPtr, applyE, hset, List.length_cons, List.length_nil, List.length_append, List.set, List.cons_append, List.nil_append] | rfl))
            | refine ⟨_, _, _, _, _, rfl, rfl, rfl, Fits.mk (by first | exact Nat.le_of_ble_eq_true rfl | (dsimp only; omega)), rfl, ?_⟩
            | refine ⟨by decide, ?_⟩
            | fail
          refine loop_I (C_ok W0) (fun i : Nat => i ≤ W.length)
            (fun i => [(0, .string (bs l)), (2, .pointer (some ⟨0, 0, none⟩)), (3, .bool false), (4, .pointer (some ⟨1, 0, none⟩)), (5, .int .i64 ((1 + i : Nat) : Int)), (6, .int .i64 ((1 : Nat) : Int))])
            (fun i => [dcB false [] [], dcB true [] []]) (fun i => W.length - i) 0 (Nat.zero_le _) ⟨_, rfl, RT.of_eq rfl rfl⟩ ?_
          intro i g1
          dsimp only
          by_cases hi : i < W.length
          · have eb := eW i hi
            have db := dW _ (List.getElem_mem hi)
            have w1 : IntKind.i64.wrap (((1 + i : Nat) : Int) + 1) = ((1 + (i + 1) : Nat) : Int) := by rw [wrap_in (by omega)]; omega
            repeat' first
              | refine brP.tD (by omega) ?_
              | refine ⟨InB.mk (by omega) (by omega), ?_⟩
              | (apply Here.norm; (first | dsimp only [Env.putR, argEnv, pure1, newPtr, applyE, hset, List.length_cons, List.length_nil, List.length_append, List.set, List.cons_append, List.nil_append] | rfl); (first | dsimp only [Env.putR, argEnv, pure1, newPtr, applyE, hset, List.length_cons, List.length_nil, List.length_append, List.set, List.cons_append, List.nil_append] | rfl))
              | fail
            apply Again.mk (i + 1)
            · omega
            · omega
            refine ⟨_, rfl, RT.of_eq ?_ rfl⟩
            rw [w1]; rfl
          · obtain rfl : i = W.length := by omega
            by_cases lo : c.toNat < 48
            ·
              repeat' first
                | refine brP.tD (by omega) ?_
                | refine brP.fD (by omega) ?_
                | refine brP.tN (by omega) ?_
                | refine ⟨InB.mk (by omega) (by omega), ?_⟩
                | refine ⟨SlB.mk (by omega) (by omega) (by omega), ?_⟩
                | (apply Here.norm; (first | dsimp only [Env.putR, argEnv, pure1, newPtr, applyE, hset, List.length_cons, List.length_nil, List.length_append, List.set, List.cons_append, List.nil_append] | rfl); (first | dsimp only [Env.putR, argEnv, pure1, newPtr, applyE, hset, List.length_cons, List.length_nil, List.length_append, List.set, List.cons_append, List.nil_append] | rfl))
                | refine ⟨_, _, _, _, _, rfl, rfl, rfl, Fits.mk (by first | exact Nat.le_of_ble_eq_true rfl | (dsimp only; omega)), rfl, ?_⟩
                | refine ⟨_, _, _, _, _, rfl, Fits.mk (by first | exact Nat.le_of_ble_eq_true rfl | (dsimp only; omega)), _, rfl, ?_⟩
                | refine ⟨by decide, ?_⟩
                | fail
              first
                | (rw [cW]; rfl)
                | (rw [cW, hw]; rfl)
            ·
              repeat' first
                | refine brP.tD (by omega) ?_
                | refine brP.fD (by omega) ?_
                | refine brP.tN (by omega) ?_
                | refine ⟨InB.mk (by omega) (by omega), ?_⟩
                | refine ⟨SlB.mk (by omega) (by omega) (by omega), ?_⟩
                | (apply Here.norm; (first | dsimp only [Env.putR, argEnv, pure1, newPtr, applyE, hset, List.length_cons, List.length_nil, List.length_append, List.set, List.cons_append, List.nil_append] | rfl); (first | dsimp only [Env.putR, argEnv, pure1, newPtr, applyE, hset, List.length_cons, List.length_nil, List.length_append, List.set, List.cons_append, List.nil_append] | rfl))
                | refine ⟨_, _, _, _, _, rfl, rfl, rfl, Fits.mk (by first | exact Nat.le_of_ble_eq_true rfl | (dsimp only; omega)), rfl, ?_⟩
                | refine ⟨_, _, _, _, _, rfl, Fits.mk (by first | exact Nat.le_of_ble_eq_true rfl | (dsimp only; omega)), _, rfl, ?_⟩
                | refine ⟨by decide, ?_⟩
                | fail
              first
                | (rw [cW]; rfl)
                | (rw [cW, hw]; rfl)
        · rw [show ([] : List UInt8).length = 0 from rfl] at ll eW cW eR eF cF eR2
          try rw [show ([] : List UInt8).length = 0 from rfl] at e2
          have z45 := z45 hh l0
          repeat' first
            | refine brP.tD (by omega) ?_
            | refine brP.fD (by omega) ?_
            | refine ⟨InB.mk (by omega) (by omega), ?_⟩
            | (apply Here.norm; (first | dsimp only [Env.putR, argEnv, pure1, newPtr, applyE, hset, List.length_cons, List.length_nil, List.length_append, List.set, List.cons_append, List.nil_append] | rfl); (first | dsimp only [Env.putR, argEnv, pure1, newPtr, applyE, hset, List.length_cons, List.length_nil, List.length_append, List.set, List.cons_append, List.nil_append] | rfl))
            | refine ⟨_, _, _, _, _, rfl, rfl, rfl, Fits.mk (by first | exact Nat.le_of_ble_eq_true rfl | (dsimp only; omega)), rfl, ?_⟩
            | fail
          refine loop_I (C_ok W0) (fun i : Nat => i ≤ W.length)
            (fun i => [(0, .string (bs l)), (2, .pointer (some ⟨0, 0, none⟩)), (3, .bool false), (4, .pointer (some ⟨1, 0, none⟩)), (5, .int .i64 ((0 + i : Nat) : Int)), (6, .int .i64 ((0 : Nat) : Int))])
            (fun i => [dcB false [] [], dcB false [] []]) (fun i => W.length - i) 0 (Nat.zero_le _) ⟨_, rfl, RT.of_eq rfl rfl⟩ ?_
          intro i g1
          dsimp only
          by_cases hi : i < W.length
          · have eb := eW i hi
            have db := dW _ (List.getElem_mem hi)
            have w1 : IntKind.i64.wrap (((0 + i : Nat) : Int) + 1) = ((0 + (i + 1) : Nat) : Int) := by rw [wrap_in (by omega)]; omega
            repeat' first
              | refine brP.tD (by omega) ?_
              | refine ⟨InB.mk (by omega) (by omega), ?_⟩
              | (apply Here.norm; (first | dsimp only [Env.putR, argEnv, pure1, newPtr, applyE, hset, List.length_cons, List.length_nil, List.length_append, List.set, List.cons_append, List.nil_append] | rfl); (first | dsimp only [Env.putR, argEnv, pure1, newPtr, applyE, hset, List.length_cons, List.length_nil, List.length_append, List.set, List.cons_append, List.nil_append] | rfl))
              | fail
            apply Again.mk (i + 1)
            · omega
            · omega
            refine ⟨_, rfl, RT.of_eq ?_ rfl⟩
            rw [w1]; rfl
          · obtain rfl : i = W.length := by omega
            by_cases lo : c.toNat < 48
            ·
              repeat' first
                | refine brP.tD (by omega) ?_
                | refine brP.fD (by omega) ?_
                | refine brP.tN (by omega) ?_
                | refine ⟨InB.mk (by omega) (by omega), ?_⟩
                | refine ⟨SlB.mk (by omega) (by omega) (by omega), ?_⟩
                | (apply Here.norm; (first | dsimp only [Env.putR, argEnv, pure1, newPtr, applyE, hset, List.length_cons, List.length_nil, List.length_append, List.set, List.cons_append, List.nil_append] | rfl); (first | dsimp only [Env.putR, argEnv, pure1, newPtr, applyE, hset, List.length_cons, List.length_nil, List.length_append, List.set, List.cons_append, List.nil_append] | rfl))
                | refine ⟨_, _, _, _, _, rfl, rfl, rfl, Fits.mk (by first | exact Nat.le_of_ble_eq_true rfl | (dsimp only; omega)), rfl, ?_⟩
                | refine ⟨_, _, _, _, _, rfl, Fits.mk (by first | exact Nat.le_of_ble_eq_true rfl | (dsimp only; omega)), _, rfl, ?_⟩
                | refine ⟨by decide, ?_⟩
                | fail
              first
                | (rw [cW]; rfl)
                | (rw [cW, hw]; rfl)
            ·
              repeat' first
                | refine brP.tD (by omega) ?_
                | refine brP.fD (by omega) ?_
                | refine brP.tN (by omega) ?_
                | refine ⟨InB.mk (by omega) (by omega), ?_⟩
                | refine ⟨SlB.mk (by omega) (by omega) (by omega), ?_⟩
                | (apply Here.norm; (first | dsimp only [Env.putR, argEnv, pure1, newPtr, applyE, hset, List.length_cons, List.length_nil, List.length_append, List.set, List.cons_append, List.nil_append] | rfl); (first | dsimp only [Env.putR, argEnv, pure1, newPtr, applyE, hset, List.length_cons, List.length_nil, List.length_append, List.set, List.cons_append, List.nil_append] | rfl))
                | refine ⟨_, _, _, _, _, rfl, rfl, rfl, Fits.mk (by first | exact Nat.le_of_ble_eq_true rfl | (dsimp only; omega)), rfl, ?_⟩
                | refine ⟨_, _, _, _, _, rfl, Fits.mk (by first | exact Nat.le_of_ble_eq_true rfl | (dsimp only; omega)), _, rfl, ?_⟩
                | refine ⟨by decide, ?_⟩
                | fail
              first
                | (rw [cW]; rfl)
                | (rw [cW, hw]; rfl)
theorem ref2_Take (l : List UInt8) (hl : l.length ≤ 1048576) : PureF (C W0) I.tumblerref02_Take [.string (bs l)] (tkV l) := by
  have td := take_drop (cutm l).1
  have i1 : ((cutm l).1.takeWhile isd ++ (cutm l).1.dropWhile isd).takeWhile isd = (cutm l).1.takeWhile isd := by rw [td]
  have i2 : ((cutm l).1.takeWhile isd ++ (cutm l).1.dropWhile isd).dropWhile isd = (cutm l).1.dropWhile isd := by rw [td]
  cases l with
  | nil => exact take_tail [] [] _ _ false (by rw [td]; rfl) (by rw [td]; rfl) i1 i2 (.inr ⟨rfl, rfl, by simp⟩) hl
  | cons c t =>
    by_cases h : c = 45
    · subst h
      exact take_tail _ [45] _ _ true (by rw [td]; rfl) (by rw [td]; rfl) i1 i2 (.inl ⟨rfl, rfl⟩) hl
    · have e : cutm (c :: t) = (c :: t, false) := by rw [cutm_cons, if_neg h]
      exact take_tail _ [] _ _ false (by rw [td, e]) (by rw [td, e]; rfl) i1 i2 (.inr ⟨rfl, rfl, by simpa using h⟩) hl
end Go.Proofs.YtioahngbfdfcaaaDoor
