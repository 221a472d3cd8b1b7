import Derived.Test.YtkocmbgpiidkdaaGreatDoorKQu
import Derived.Test.YtkocmbgpiidkdaaGreatDoorKNv
import Derived.Test.YtkocmbgpiidkdaaGreatDoorDenB
set_option linter.unusedVariables false
set_option linter.unusedSimpArgs false
namespace Go.Proofs.YtkocmbgpiidkdaaGreatDoor
open Go Go.Den Go.RowKit
variable {W0 : World}
/-! micro.Share; window.Begin; flush.Check -/
def shareV (a n : Int) : Int × Int := if n < 1 then (0, 1) else ((quo3 a n).1, (quo3 a n).2.2)
attribute [local irreducible] quo3
theorem micro_Share (a n : Int) (ha : R a) (hn : Hi n) : PureF (C W0) I.micro_Share [wv a, .int .i64 n] (.tuple #[wv (shareV a n).1, .int .i64 (shareV a n).2]) := by
  have hR : R n := by unfold Hi at hn; unfold R; omega
  have o := wide_Of (W0 := W0) n hn
  have q := wide_Quo (W0 := W0) a n ha hR
  unfold shareV
  refine PureF.E (CallP.of_body (C_ok W0) B.micro_Share rfl rfl rfl ?_)
  by_cases h : n < 1
  · rw [if_pos h]
    repeat' first
      | refine brP.tD (by omega) ?_
      | (apply Here.norm; (first | dsimp only [Env.putR, argEnv, pure1, newPtr, applyE, hset, List.length_cons, List.length_nil, List.length_append, List.set, List.cons_append, List.nil_append] | rfl); (first | dsimp only [Env.putR, argEnv, pure1, newPtr, applyE, hset, List.length_cons, List.length_nil, List.length_append, List.set, List.cons_append, List.nil_append] | rfl))
      | refine ⟨_, _, _, _, _, rfl, rfl, rfl, Fits.mk (by first | exact Nat.le_of_ble_eq_true rfl | (dsimp only; omega)), rfl, ?_⟩
      | refine ⟨_, _, _, _, _, rfl, Fits.mk (by first | exact Nat.le_of_ble_eq_true rfl | (dsimp only; omega)), _, rfl, ?_⟩
      | fail
    rfl
  · rw [if_neg h]
    repeat' first
      | refine brP.fD (by omega) ?_
      | refine .inl ⟨_, o, ?_⟩
      | refine .inl ⟨_, q, ?_⟩
      | (apply Here.norm; (first | dsimp only [Env.putR, argEnv, pure1, newPtr, applyE, hset, List.length_cons, List.length_nil, List.length_append, List.set, List.cons_append, List.nil_append] | rfl); (first | dsimp only [Env.putR, argEnv, pure1, newPtr, applyE, hset, List.length_cons, List.length_nil, List.length_append, List.set, List.cons_append, List.nil_append] | rfl))
      | refine ⟨_, _, _, _, _, rfl, rfl, rfl, Fits.mk (by first | exact Nat.le_of_ble_eq_true rfl | (dsimp only; omega)), rfl, ?_⟩
      | refine ⟨_, _, _, _, _, rfl, Fits.mk (by first | exact Nat.le_of_ble_eq_true rfl | (dsimp only; omega)), _, rfl, ?_⟩
      | refine draw_go (C_ok W0) (by kernel_rfl) ?_
      | refine ⟨cpt_ok (by kernel_rfl), ?_⟩
      | refine ⟨_, rfl, ?_⟩
      | fail
    rfl
def wrongW (w : Int) : Bool := decide (w < 1) || decide (1048576 < w)
theorem window_wrong (w : Int) : PureF (C W0) I.window_wrong [.int .i64 w] (.bool (wrongW w)) := by
  refine PureF.E (CallP.of_body (C_ok W0) B.window_wrong rfl rfl rfl ?_)
  unfold wrongW
  by_cases h : w < 1
  · rw [decide_eq_true h]
    repeat' first
      | refine brP.tD (by omega) ?_
      | (apply Here.norm; (first | dsimp only [Env.putR, argEnv, pure1, newPtr, applyE, hset, List.length_cons, List.length_nil, List.length_append, List.set, List.cons_append, List.nil_append] | rfl); (first | dsimp only [Env.putR, argEnv, pure1, newPtr, applyE, hset, List.length_cons, List.length_nil, List.length_append, List.set, List.cons_append, List.nil_append] | rfl))
      | fail
    rfl
  · rw [decide_eq_false h]
    repeat' first
      | refine brP.fD (by omega) ?_
      | (apply Here.norm; (first | dsimp only [Env.putR, argEnv, pure1, newPtr, applyE, hset, List.length_cons, List.length_nil, List.length_append, List.set, List.cons_append, List.nil_append] | rfl); (first | dsimp only [Env.putR, argEnv, pure1, newPtr, applyE, hset, List.length_cons, List.length_nil, List.length_append, List.set, List.cons_append, List.nil_append] | rfl))
      | fail
    rfl
def timesV (id w : Int) : Int × Int := if IntKind.i64.wrap (Int.tdiv 9223372036854775807 w) < id ∨ id < IntKind.i64.wrap (Int.tdiv (-9223372036854775808) w) then (0, 60) else (IntKind.i64.wrap (id * w), 0)
theorem window_times (id w : Int) (hw : 1 ≤ w) : PureF (C W0) I.window_times [.int .i64 id, .int .i64 w] (.tuple #[.int .i64 (timesV id w).1, .int .i64 (timesV id w).2]) := by
  refine PureF.E (CallP.of_body (C_ok W0) B.window_times rfl rfl rfl ?_)
  unfold timesV
  by_cases h1 : IntKind.i64.wrap (Int.tdiv 9223372036854775807 w) < id
  · rw [if_pos (.inl h1)]
    repeat' first
      | refine brP.tD (by omega) ?_
      | (apply Here.norm; (first | dsimp only [Env.putR, argEnv, pure1, newPtr, applyE, hset, List.length_cons, List.length_nil, List.length_append, List.set, List.cons_append, List.nil_append] | rfl); (first | dsimp only [Env.putR, argEnv, pure1, newPtr, applyE, hset, List.length_cons, List.length_nil, List.length_append, List.set, List.cons_append, List.nil_append] | rfl))
      | refine ⟨NzB.mk (by first | decide | omega), ?_⟩
      | fail
    rfl
  · by_cases h2 : id < IntKind.i64.wrap (Int.tdiv (-9223372036854775808) w)
    · rw [if_pos (.inr h2)]
      repeat' first
        | refine brP.tD (by omega) ?_
        | refine brP.fD (by omega) ?_
        | (apply Here.norm; (first | dsimp only [Env.putR, argEnv, pure1, newPtr, applyE, hset, List.length_cons, List.length_nil, List.length_append, List.set, List.cons_append, List.nil_append] | rfl); (first | dsimp only [Env.putR, argEnv, pure1, newPtr, applyE, hset, List.length_cons, List.length_nil, List.length_append, List.set, List.cons_append, List.nil_append] | rfl))
        | refine ⟨NzB.mk (by first | decide | omega), ?_⟩
        | fail
      rfl
    · rw [if_neg (fun z => z.elim h1 h2)]
      repeat' first
        | refine brP.fD (by omega) ?_
        | (apply Here.norm; (first | dsimp only [Env.putR, argEnv, pure1, newPtr, applyE, hset, List.length_cons, List.length_nil, List.length_append, List.set, List.cons_append, List.nil_append] | rfl); (first | dsimp only [Env.putR, argEnv, pure1, newPtr, applyE, hset, List.length_cons, List.length_nil, List.length_append, List.set, List.cons_append, List.nil_append] | rfl))
        | refine ⟨NzB.mk (by first | decide | omega), ?_⟩
        | fail
      rfl
def beginV (id w : Int) : Int × Int := if wrongW w = true then (0, 61) else timesV id w
theorem window_Begin (id w : Int) : PureF (C W0) I.window_Begin [.int .i64 id, .int .i64 w] (.tuple #[.int .i64 (beginV id w).1, .int .i64 (beginV id w).2]) := by
  have wr := window_wrong (W0 := W0) w
  refine PureF.E (CallP.of_body (C_ok W0) B.window_Begin rfl rfl rfl ?_)
  unfold beginV
  by_cases h : wrongW w = true
  · rw [if_pos h]
    rw [h] at wr
    repeat' first
      | refine (wr).call ?_
      | (apply Here.norm; (first | dsimp only [Env.putR, argEnv, pure1, newPtr, applyE, hset, List.length_cons, List.length_nil, List.length_append, List.set, List.cons_append, List.nil_append] | rfl); (first | dsimp only [Env.putR, argEnv, pure1, newPtr, applyE, hset, List.length_cons, List.length_nil, List.length_append, List.set, List.cons_append, List.nil_append] | rfl))
      | fail
    rfl
  · rw [if_neg h]
    have hw : 1 ≤ w := by unfold wrongW at h; simp at h; omega
    have tm := window_times (W0 := W0) id w hw
    rw [show wrongW w = false by simpa using h] at wr
    repeat' first
      | refine (wr).call ?_
      | refine (tm).call ?_
      | (apply Here.norm; (first | dsimp only [Env.putR, argEnv, pure1, newPtr, applyE, hset, List.length_cons, List.length_nil, List.length_append, List.set, List.cons_append, List.nil_append] | rfl); (first | dsimp only [Env.putR, argEnv, pure1, newPtr, applyE, hset, List.length_cons, List.length_nil, List.length_append, List.set, List.cons_append, List.nil_append] | rfl))
      | refine ⟨_, rfl, ?_⟩
      | fail
    rfl
/-- Rows of numbers. -/
def icells (l : List Int) : List Value := l.map fun n => .int .i64 n
instance {l : List Int} : NFs (icells l) := ⟨fun u h => by
  obtain ⟨n, _, rfl⟩ := List.mem_map.mp h
  exact .int _ _⟩
theorem icells_at {l : List Int} {i : Nat} (h : i < l.length) : (icells l)[((i : Int).toNat) * 1]? = some (.int .i64 (l.getD i 0)) := by
  unfold icells; simp [h]
def rb (l : List Int) (least : Int) : Nat → Nat → Bool
  | 0, _ => true
  | n + 1, i => if l.getD i 0 < least then false else if 0 < i ∧ l.getD i 0 ≤ l.getD (i - 1) 0 then false else rb l least n (i + 1)
def risesB (l : List Int) (least : Int) : Bool := rb l least l.length 0
set_option maxHeartbeats 2000000 in
theorem flush_rises (l : List Int) (least : Int) (hl : l.length ≤ 1048576) : PureF (C W0) I.flush_rises [LV (icells l) l.length, .int .i64 least] (.bool (risesB l least)) := by
  obtain ⟨A, hA⟩ : ∃ A, A = risesB l least := ⟨_, rfl⟩
  rw [← hA]
  refine PureF.E (CallP.of_body (C_ok W0) B.flush_rises rfl rfl rfl ?_)
  repeat' first
    | (apply Here.norm; (first | dsimp only [Env.putR, argEnv, pure1, newPtr, applyE, hset, List.length_cons, List.length_nil, List.length_append, List.set, List.cons_append, List.nil_append] | rfl); (first | dsimp only [Env.putR, argEnv, pure1, newPtr, applyE, hset, List.length_cons, List.length_nil, List.length_append, List.set, List.cons_append, List.nil_append] | rfl))
    | fail
  refine loop_I (C_ok W0) (fun i : Nat => i ≤ l.length ∧ rb l least (l.length - i) i = A) (fun i => [(0, LV (icells l) l.length), (1, .int .i64 least), (7, LV (icells l) l.length), (8, .int .i64 l.length), (9, .int .i64 i)]) (fun _ => []) (fun i => l.length - i) 0
    ⟨Nat.zero_le _, hA.symm⟩ ⟨_, rfl, RT.of_eq rfl rfl⟩ ?_
  rintro i ⟨g1, g2⟩
  dsimp only at g1 g2 ⊢
  by_cases hi : i < l.length
  · have hv := icells_at hi
    have w1 : IntKind.i64.wrap ((i : Int) + 1) = ((i + 1 : Nat) : Int) := by rw [wrap_in (by omega)]; omega
    rw [show l.length - i = (l.length - (i + 1)) + 1 by omega, rb] at g2
    by_cases c1 : l.getD i 0 < least
    · rw [if_pos c1] at g2
      repeat' first
        | refine brP.tD (by omega) ?_
        | refine ⟨_, hv, ?_⟩
        | (apply Here.norm; (first | dsimp only [Env.putR, argEnv, pure1, newPtr, applyE, hset, List.length_cons, List.length_nil, List.length_append, List.set, List.cons_append, List.nil_append] | rfl); (first | dsimp only [Env.putR, argEnv, pure1, newPtr, applyE, hset, List.length_cons, List.length_nil, List.length_append, List.set, List.cons_append, List.nil_append] | rfl))
        | refine ⟨InB.mk (by first | decide | omega) (by first | decide | omega), ?_⟩
        | fail
      exact congrArg Value.bool g2
    · rw [if_neg c1] at g2
      by_cases c2 : 0 < i
      · have w2 : IntKind.i64.wrap ((i : Int) - 1) = ((i - 1 : Nat) : Int) := by rw [wrap_in (by omega)]; omega
        have hv2 : (icells l)[(IntKind.i64.wrap ((i : Int) - 1)).toNat * 1]? = some (.int .i64 (l.getD (i - 1) 0)) := by rw [w2]; exact icells_at (by omega)
        by_cases c3 : l.getD i 0 ≤ l.getD (i - 1) 0
        · rw [if_pos ⟨c2, c3⟩] at g2
          repeat' first
            | refine brP.tD (by omega) ?_
            | refine brP.fD (by omega) ?_
            | refine ⟨_, hv, ?_⟩
            | refine ⟨_, hv2, ?_⟩
            | (apply Here.norm; (first | dsimp only [Env.putR, argEnv, pure1, newPtr, applyE, hset, List.length_cons, List.length_nil, List.length_append, List.set, List.cons_append, List.nil_append] | rfl); (first | dsimp only [Env.putR, argEnv, pure1, newPtr, applyE, hset, List.length_cons, List.length_nil, List.length_append, List.set, List.cons_append, List.nil_append] | rfl))
            | refine ⟨InB.mk (by first | decide | omega) (by first | decide | omega), ?_⟩
            | fail
          exact congrArg Value.bool g2
        · rw [if_neg (fun z => c3 z.2)] at g2
          repeat' first
            | refine brP.tD (by omega) ?_
            | refine brP.fD (by omega) ?_
            | refine ⟨_, hv, ?_⟩
            | refine ⟨_, hv2, ?_⟩
            | (apply Here.norm; (first | dsimp only [Env.putR, argEnv, pure1, newPtr, applyE, hset, List.length_cons, List.length_nil, List.length_append, List.set, List.cons_append, List.nil_append] | rfl); (first | dsimp only [Env.putR, argEnv, pure1, newPtr, applyE, hset, List.length_cons, List.length_nil, List.length_append, List.set, List.cons_append, List.nil_append] | rfl))
            | refine ⟨InB.mk (by first | decide | omega) (by first | decide | omega), ?_⟩
            | fail
          apply Again.mk (i + 1)
          · exact ⟨by omega, g2⟩
          · omega
          refine ⟨_, rfl, RT.of_eq ?_ rfl⟩
          rw [w1]; rfl
      · rw [if_neg (fun z => c2 z.1)] at g2
        repeat' first
          | refine brP.tD (by omega) ?_
          | refine brP.fD (by omega) ?_
          | refine ⟨_, hv, ?_⟩
          | (apply Here.norm; (first | dsimp only [Env.putR, argEnv, pure1, newPtr, applyE, hset, List.length_cons, List.length_nil, List.length_append, List.set, List.cons_append, List.nil_append] | rfl); (first | dsimp only [Env.putR, argEnv, pure1, newPtr, applyE, hset, List.length_cons, List.length_nil, List.length_append, List.set, List.cons_append, List.nil_append] | rfl))
          | refine ⟨InB.mk (by first | decide | omega) (by first | decide | omega), ?_⟩
          | fail
        apply Again.mk (i + 1)
        · exact ⟨by omega, g2⟩
        · omega
        refine ⟨_, rfl, RT.of_eq ?_ rfl⟩
        rw [w1]; rfl
  · rw [show l.length - i = 0 by omega, rb] at g2
    repeat' first
      | refine brP.fD (by omega) ?_
      | (apply Here.norm; (first | dsimp only [Env.putR, argEnv, pure1, newPtr, applyE, hset, List.length_cons, List.length_nil, List.length_append, List.set, List.cons_append, List.nil_append] | rfl); (first | dsimp only [Env.putR, argEnv, pure1, newPtr, applyE, hset, List.length_cons, List.length_nil, List.length_append, List.set, List.cons_append, List.nil_append] | rfl))
      | fail
    exact congrArg Value.bool g2
def ib (l : List Int) (v : Int) : Nat → Nat → Int
  | 0, _ => -1
  | n + 1, i => if v = l.getD i 0 then (i : Int) else ib l v n (i + 1)
def indexI (l : List Int) (v : Int) : Int := ib l v l.length 0
theorem slices_Index_i (l : List Int) (v : Int) (hl : l.length ≤ 1048576) : PureF (C W0) I.slices_Index_int64_int64 [LV (icells l) l.length, .int .i64 v] (.int .i64 (indexI l v)) := by
  obtain ⟨A, hA⟩ : ∃ A, A = indexI l v := ⟨_, rfl⟩
  rw [← hA]
  refine PureF.E (CallP.of_body (C_ok W0) B.slices_Index_int64_int64 rfl rfl rfl ?_)
  repeat' first
    | (apply Here.norm; (first | dsimp only [Env.putR, argEnv, pure1, newPtr, applyE, hset, List.length_cons, List.length_nil, List.length_append, List.set, List.cons_append, List.nil_append] | rfl); (first | dsimp only [Env.putR, argEnv, pure1, newPtr, applyE, hset, List.length_cons, List.length_nil, List.length_append, List.set, List.cons_append, List.nil_append] | rfl))
    | fail
  refine loop_I (C_ok W0) (fun i : Nat => i ≤ l.length ∧ ib l v (l.length - i) i = A) (fun i => [(0, LV (icells l) l.length), (1, .int .i64 v), (6, LV (icells l) l.length), (7, .int .i64 l.length), (8, .int .i64 i)]) (fun _ => []) (fun i => l.length - i) 0
    ⟨Nat.zero_le _, hA.symm⟩ ⟨_, rfl, RT.of_eq rfl rfl⟩ ?_
  rintro i ⟨g1, g2⟩
  dsimp only at g1 g2 ⊢
  by_cases hi : i < l.length
  · have hv := icells_at hi
    have w1 : IntKind.i64.wrap ((i : Int) + 1) = ((i + 1 : Nat) : Int) := by rw [wrap_in (by omega)]; omega
    rw [show l.length - i = (l.length - (i + 1)) + 1 by omega, ib] at g2
    by_cases c1 : v = l.getD i 0
    · rw [if_pos c1] at g2
      repeat' first
        | refine brP.tD (by omega) ?_
        | refine ⟨_, hv, ?_⟩
        | (apply Here.norm; (first | dsimp only [Env.putR, argEnv, pure1, newPtr, applyE, hset, List.length_cons, List.length_nil, List.length_append, List.set, List.cons_append, List.nil_append] | rfl); (first | dsimp only [Env.putR, argEnv, pure1, newPtr, applyE, hset, List.length_cons, List.length_nil, List.length_append, List.set, List.cons_append, List.nil_append] | rfl))
        | refine ⟨InB.mk (by first | decide | omega) (by first | decide | omega), ?_⟩
        | fail
      exact congrArg (Value.int .i64) g2
    · rw [if_neg c1] at g2
      repeat' first
        | refine brP.tD (by omega) ?_
        | refine brP.fD (by omega) ?_
        | refine ⟨_, hv, ?_⟩
        | (apply Here.norm; (first | dsimp only [Env.putR, argEnv, pure1, newPtr, applyE, hset, List.length_cons, List.length_nil, List.length_append, List.set, List.cons_append, List.nil_append] | rfl); (first | dsimp only [Env.putR, argEnv, pure1, newPtr, applyE, hset, List.length_cons, List.length_nil, List.length_append, List.set, List.cons_append, List.nil_append] | rfl))
        | refine ⟨InB.mk (by first | decide | omega) (by first | decide | omega), ?_⟩
        | fail
      apply Again.mk (i + 1)
      · exact ⟨by omega, g2⟩
      · omega
      refine ⟨_, rfl, RT.of_eq ?_ rfl⟩
      rw [w1]; rfl
  · rw [show l.length - i = 0 by omega, ib] at g2
    repeat' first
      | refine brP.fD (by omega) ?_
      | (apply Here.norm; (first | dsimp only [Env.putR, argEnv, pure1, newPtr, applyE, hset, List.length_cons, List.length_nil, List.length_append, List.set, List.cons_append, List.nil_append] | rfl); (first | dsimp only [Env.putR, argEnv, pure1, newPtr, applyE, hset, List.length_cons, List.length_nil, List.length_append, List.set, List.cons_append, List.nil_append] | rfl))
      | fail
    exact congrArg (Value.int .i64) g2
theorem slices_Contains_i (l : List Int) (v : Int) (hl : l.length ≤ 1048576) : PureF (C W0) I.slices_Contains_int64_int64 [LV (icells l) l.length, .int .i64 v] (.bool (decide (0 ≤ indexI l v))) := by
  have ix := slices_Index_i (W0 := W0) l v hl
  refine PureF.E (CallP.of_body (C_ok W0) B.slices_Contains_int64_int64 rfl rfl rfl ?_)
  repeat' first
    | refine (ix).call ?_
    | (apply Here.norm; (first | dsimp only [Env.putR, argEnv, pure1, newPtr, applyE, hset, List.length_cons, List.length_nil, List.length_append, List.set, List.cons_append, List.nil_append] | rfl); (first | dsimp only [Env.putR, argEnv, pure1, newPtr, applyE, hset, List.length_cons, List.length_nil, List.length_append, List.set, List.cons_append, List.nil_append] | rfl))
    | fail
  rfl
/- Check answers 0 or 100. -/
set_option maxHeartbeats 8000000 in
theorem flush_Check (hW : WF W0) (p : List UInt8) (ps qs : List Int) (hp : p.length ≤ 1048576) (h1 : ps.length ≤ 1048576) (h2 : qs.length ≤ 1048576) :
    ∃ c : Int, (c = 0 ∨ c = 100) ∧ PureF (C W0) I.flush_Check [.agg #[.string (bs p), LV (icells ps) ps.length, LV (icells qs) qs.length]] (.int .i64 c) := by
  have hsz := bs_size p
  have nv := name_Valid hW p hp
  have r1 := flush_rises (W0 := W0) ps (-100000000) h1
  have r2 := flush_rises (W0 := W0) qs 0 h2
  have sc := slices_Contains_i (W0 := W0) ps 0 h1
  have bad : (p ≠ [] ∧ okName p = false) ∨ 16 < ps.length ∨ 32 < qs.length ∨ risesB ps (-100000000) = false ∨ risesB qs 0 = false ∨ 0 ≤ indexI ps 0 → PureF (C W0) I.flush_Check [.agg #[.string (bs p), LV (icells ps) ps.length, LV (icells qs) qs.length]] (.int .i64 100) := by
    intro h
    refine PureF.E (CallP.of_body (C_ok W0) B.flush_Check rfl rfl rfl ?_)
    by_cases a0 : p = []
    · have b0 : bs p = ⟨#[]⟩ := bs_nil_iff.mpr a0
      by_cases a1 : 16 < ps.length
      ·
        repeat' first
          | refine brP.tD (by omega) ?_
          | refine brP.fN (by omega) ?_
          | (apply Here.norm; (first | dsimp only [Env.putR, argEnv, pure1, newPtr, applyE, hset, List.length_cons, List.length_nil, List.length_append, List.set, List.cons_append, List.nil_append] | rfl); (first | dsimp only [Env.putR, argEnv, pure1, newPtr, applyE, hset, List.length_cons, List.length_nil, List.length_append, List.set, List.cons_append, List.nil_append] | rfl))
          | refine ⟨_, _, _, _, _, rfl, _, rfl, ?_⟩
          | refine ⟨by decide, ?_⟩
          | fail
        rfl
      · by_cases a2 : 32 < qs.length
        ·
          repeat' first
            | refine brP.tD (by omega) ?_
            | refine brP.fD (by omega) ?_
            | refine brP.fN (by omega) ?_
            | (apply Here.norm; (first | dsimp only [Env.putR, argEnv, pure1, newPtr, applyE, hset, List.length_cons, List.length_nil, List.length_append, List.set, List.cons_append, List.nil_append] | rfl); (first | dsimp only [Env.putR, argEnv, pure1, newPtr, applyE, hset, List.length_cons, List.length_nil, List.length_append, List.set, List.cons_append, List.nil_append] | rfl))
            | refine ⟨_, _, _, _, _, rfl, _, rfl, ?_⟩
            | refine ⟨by decide, ?_⟩
            | fail
          rfl
        · cases e1 : risesB ps (-100000000) with
          | false =>
            rw [e1] at r1
            repeat' first
              | refine brP.fD (by omega) ?_
              | refine brP.fN (by omega) ?_
              | refine (r1).call ?_
              | (apply Here.norm; (first | dsimp only [Env.putR, argEnv, pure1, newPtr, applyE, hset, List.length_cons, List.length_nil, List.length_append, List.set, List.cons_append, List.nil_append] | rfl); (first | dsimp only [Env.putR, argEnv, pure1, newPtr, applyE, hset, List.length_cons, List.length_nil, List.length_append, List.set, List.cons_append, List.nil_append] | rfl))
              | refine ⟨_, _, _, _, _, rfl, _, rfl, ?_⟩
              | refine ⟨by decide, ?_⟩
              | fail
            rfl
          | true =>
            rw [e1] at r1
            cases e2 : risesB qs 0 with
            | false =>
              rw [e2] at r2
              repeat' first
                | refine brP.fD (by omega) ?_
                | refine brP.fN (by omega) ?_
                | refine (r1).call ?_
                | refine (r2).call ?_
                | (apply Here.norm; (first | dsimp only [Env.putR, argEnv, pure1, newPtr, applyE, hset, List.length_cons, List.length_nil, List.length_append, List.set, List.cons_append, List.nil_append] | rfl); (first | dsimp only [Env.putR, argEnv, pure1, newPtr, applyE, hset, List.length_cons, List.length_nil, List.length_append, List.set, List.cons_append, List.nil_append] | rfl))
                | refine ⟨_, _, _, _, _, rfl, _, rfl, ?_⟩
                | refine ⟨by decide, ?_⟩
                | fail
              rfl
            | true =>
              rw [e2] at r2
              have a3 : 0 ≤ indexI ps 0 := by
                rcases h with h | h | h | h | h | h
                · first | exact absurd a0 h.1 | (rw [ok] at h; cases h.2)
                · omega
                · omega
                · rw [e1] at h; cases h
                · rw [e2] at h; cases h
                · exact h
              rw [decide_eq_true a3] at sc
              repeat' first
                | refine brP.fD (by omega) ?_
                | refine brP.fN (by omega) ?_
                | refine (r1).call ?_
                | refine (r2).call ?_
                | refine (sc).call ?_
                | (apply Here.norm; (first | dsimp only [Env.putR, argEnv, pure1, newPtr, applyE, hset, List.length_cons, List.length_nil, List.length_append, List.set, List.cons_append, List.nil_append] | rfl); (first | dsimp only [Env.putR, argEnv, pure1, newPtr, applyE, hset, List.length_cons, List.length_nil, List.length_append, List.set, List.cons_append, List.nil_append] | rfl))
                | refine ⟨_, _, _, _, _, rfl, _, rfl, ?_⟩
                | refine ⟨by decide, ?_⟩
                | fail
              rfl
    · have b0 : ¬ bs p = ⟨#[]⟩ := fun z => a0 (bs_nil_iff.mp z)
      cases ok : okName p with
      | false =>
        rw [ok] at nv
        repeat' first
          | refine brP.tN (by omega) ?_
          | refine (nv).call ?_
          | (apply Here.norm; (first | dsimp only [Env.putR, argEnv, pure1, newPtr, applyE, hset, List.length_cons, List.length_nil, List.length_append, List.set, List.cons_append, List.nil_append] | rfl); (first | dsimp only [Env.putR, argEnv, pure1, newPtr, applyE, hset, List.length_cons, List.length_nil, List.length_append, List.set, List.cons_append, List.nil_append] | rfl))
          | refine ⟨_, _, _, _, _, rfl, _, rfl, ?_⟩
          | refine ⟨by decide, ?_⟩
          | fail
        rfl
      | true =>
        rw [ok] at nv
        by_cases a1 : 16 < ps.length
        ·
          repeat' first
            | refine brP.tD (by omega) ?_
            | refine brP.tN (by omega) ?_
            | refine (nv).call ?_
            | (apply Here.norm; (first | dsimp only [Env.putR, argEnv, pure1, newPtr, applyE, hset, List.length_cons, List.length_nil, List.length_append, List.set, List.cons_append, List.nil_append] | rfl); (first | dsimp only [Env.putR, argEnv, pure1, newPtr, applyE, hset, List.length_cons, List.length_nil, List.length_append, List.set, List.cons_append, List.nil_append] | rfl))
            | refine ⟨_, _, _, _, _, rfl, _, rfl, ?_⟩
            | refine ⟨by decide, ?_⟩
            | fail
          rfl
        · by_cases a2 : 32 < qs.length
          ·
            repeat' first
              | refine brP.tD (by omega) ?_
              | refine brP.fD (by omega) ?_
              | refine brP.tN (by omega) ?_
              | refine (nv).call ?_
              | (apply Here.norm; (first | dsimp only [Env.putR, argEnv, pure1, newPtr, applyE, hset, List.length_cons, List.length_nil, List.length_append, List.set, List.cons_append, List.nil_append] | rfl); (first | dsimp only [Env.putR, argEnv, pure1, newPtr, applyE, hset, List.length_cons, List.length_nil, List.length_append, List.set, List.cons_append, List.nil_append] | rfl))
              | refine ⟨_, _, _, _, _, rfl, _, rfl, ?_⟩
              | refine ⟨by decide, ?_⟩
              | fail
            rfl
          · cases e1 : risesB ps (-100000000) with
            | false =>
              rw [e1] at r1
              repeat' first
                | refine brP.fD (by omega) ?_
                | refine brP.tN (by omega) ?_
                | refine (nv).call ?_
                | refine (r1).call ?_
                | (apply Here.norm; (first | dsimp only [Env.putR, argEnv, pure1, newPtr, applyE, hset, List.length_cons, List.length_nil, List.length_append, List.set, List.cons_append, List.nil_append] | rfl); (first | dsimp only [Env.putR, argEnv, pure1, newPtr, applyE, hset, List.length_cons, List.length_nil, List.length_append, List.set, List.cons_append, List.nil_append] | rfl))
                | refine ⟨_, _, _, _, _, rfl, _, rfl, ?_⟩
                | refine ⟨by decide, ?_⟩
                | fail
              rfl
            | true =>
              rw [e1] at r1
              cases e2 : risesB qs 0 with
              | false =>
                rw [e2] at r2
                repeat' first
                  | refine brP.fD (by omega) ?_
                  | refine brP.tN (by omega) ?_
                  | refine (nv).call ?_
                  | refine (r1).call ?_
                  | refine (r2).call ?_
                  | (apply Here.norm; (first | dsimp only [Env.putR, argEnv, pure1, newPtr, applyE, hset, List.length_cons, List.length_nil, List.length_append, List.set, List.cons_append, List.nil_append] | rfl); (first | dsimp only [Env.putR, argEnv, pure1, newPtr, applyE, hset, List.length_cons, List.length_nil, List.length_append, List.set, List.cons_append, List.nil_append] | rfl))
                  | refine ⟨_, _, _, _, _, rfl, _, rfl, ?_⟩
                  | refine ⟨by decide, ?_⟩
                  | fail
                rfl
              | true =>
                rw [e2] at r2
                have a3 : 0 ≤ indexI ps 0 := by
                  rcases h with h | h | h | h | h | h
                  · first | exact absurd a0 h.1 | (rw [ok] at h; cases h.2)
                  · omega
                  · omega
                  · rw [e1] at h; cases h
                  · rw [e2] at h; cases h
                  · exact h
                rw [decide_eq_true a3] at sc
                repeat' first
                  | refine brP.fD (by omega) ?_
                  | refine brP.tN (by omega) ?_
                  | refine (nv).call ?_
                  | refine (r1).call ?_
                  | refine (r2).call ?_
                  | refine (sc).call ?_
                  | (apply Here.norm; (first | dsimp only [Env.putR, argEnv, pure1, newPtr, applyE, hset, List.length_cons, List.length_nil, List.length_append, List.set, List.cons_append, List.nil_append] | rfl); (first | dsimp only [Env.putR, argEnv, pure1, newPtr, applyE, hset, List.length_cons, List.length_nil, List.length_append, List.set, List.cons_append, List.nil_append] | rfl))
                  | refine ⟨_, _, _, _, _, rfl, _, rfl, ?_⟩
                  | refine ⟨by decide, ?_⟩
                  | fail
                rfl
  by_cases h : (p ≠ [] ∧ okName p = false) ∨ 16 < ps.length ∨ 32 < qs.length ∨ risesB ps (-100000000) = false ∨ risesB qs 0 = false ∨ 0 ≤ indexI ps 0
  · exact ⟨100, .inr rfl, bad h⟩
  · simp only [not_or] at h
    obtain ⟨n0, n1, n2, n3, n4, n5⟩ := h
    rw [show risesB ps (-100000000) = true by simpa using n3] at r1
    rw [show risesB qs 0 = true by simpa using n4] at r2
    rw [decide_eq_false n5] at sc
    by_cases m0 : ps.length = 0
    · refine ⟨0, .inl rfl, PureF.E (CallP.of_body (C_ok W0) B.flush_Check rfl rfl rfl ?_)⟩
      by_cases a0 : p = []
      · have b0 : bs p = ⟨#[]⟩ := bs_nil_iff.mpr a0
        repeat' first
          | refine brP.fD (by omega) ?_
          | refine brP.fN (by omega) ?_
          | refine (r1).call ?_
          | refine (r2).call ?_
          | refine (sc).call ?_
          | (apply Here.norm; (first | dsimp only [Env.putR, argEnv, pure1, newPtr, applyE, hset, List.length_cons, List.length_nil, List.length_append, List.set, List.cons_append, List.nil_append] | rfl); (first | dsimp only [Env.putR, argEnv, pure1, newPtr, applyE, hset, List.length_cons, List.length_nil, List.length_append, List.set, List.cons_append, List.nil_append] | rfl))
          | refine ⟨_, _, _, _, _, rfl, _, rfl, ?_⟩
          | refine ⟨by decide, ?_⟩
          | fail
        rfl
      · have b0 : ¬ bs p = ⟨#[]⟩ := fun z => a0 (bs_nil_iff.mp z)
        rw [show okName p = true by cases ok : okName p with | true => rfl | false => exact absurd ⟨a0, ok⟩ n0] at nv
        repeat' first
          | refine brP.fD (by omega) ?_
          | refine brP.tN (by omega) ?_
          | refine (nv).call ?_
          | refine (r1).call ?_
          | refine (r2).call ?_
          | refine (sc).call ?_
          | (apply Here.norm; (first | dsimp only [Env.putR, argEnv, pure1, newPtr, applyE, hset, List.length_cons, List.length_nil, List.length_append, List.set, List.cons_append, List.nil_append] | rfl); (first | dsimp only [Env.putR, argEnv, pure1, newPtr, applyE, hset, List.length_cons, List.length_nil, List.length_append, List.set, List.cons_append, List.nil_append] | rfl))
          | refine ⟨_, _, _, _, _, rfl, _, rfl, ?_⟩
          | refine ⟨by decide, ?_⟩
          | fail
        rfl
    · have w2 : IntKind.i64.wrap ((ps.length : Int) - 1) = ((ps.length - 1 : Nat) : Int) := by rw [wrap_in (by omega)]; omega
      have hv : (icells ps)[(IntKind.i64.wrap ((ps.length : Int) - 1)).toNat * 1]? = some (.int .i64 (ps.getD (ps.length - 1) 0)) := by
        rw [w2]
        exact icells_at (by omega)
      by_cases m1 : 100000000 < ps.getD (ps.length - 1) 0
      · refine ⟨100, .inr rfl, PureF.E (CallP.of_body (C_ok W0) B.flush_Check rfl rfl rfl ?_)⟩
        by_cases a0 : p = []
        · have b0 : bs p = ⟨#[]⟩ := bs_nil_iff.mpr a0
          repeat' first
            | refine brP.tD (by omega) ?_
            | refine brP.fD (by omega) ?_
            | refine brP.fN (by omega) ?_
            | refine (r1).call ?_
            | refine (r2).call ?_
            | refine (sc).call ?_
            | refine ⟨_, hv, ?_⟩
            | (apply Here.norm; (first | dsimp only [Env.putR, argEnv, pure1, newPtr, applyE, hset, List.length_cons, List.length_nil, List.length_append, List.set, List.cons_append, List.nil_append] | rfl); (first | dsimp only [Env.putR, argEnv, pure1, newPtr, applyE, hset, List.length_cons, List.length_nil, List.length_append, List.set, List.cons_append, List.nil_append] | rfl))
            | refine ⟨_, _, _, _, _, rfl, _, rfl, ?_⟩
            | refine ⟨InB.mk (by first | decide | omega) (by first | decide | omega), ?_⟩
            | refine ⟨by decide, ?_⟩
            | fail
          rfl
        · have b0 : ¬ bs p = ⟨#[]⟩ := fun z => a0 (bs_nil_iff.mp z)
          rw [show okName p = true by cases ok : okName p with | true => rfl | false => exact absurd ⟨a0, ok⟩ n0] at nv
          repeat' first
            | refine brP.tD (by omega) ?_
            | refine brP.fD (by omega) ?_
            | refine brP.tN (by omega) ?_
            | refine (nv).call ?_
            | refine (r1).call ?_
            | refine (r2).call ?_
            | refine (sc).call ?_
            | refine ⟨_, hv, ?_⟩
            | (apply Here.norm; (first | dsimp only [Env.putR, argEnv, pure1, newPtr, applyE, hset, List.length_cons, List.length_nil, List.length_append, List.set, List.cons_append, List.nil_append] | rfl); (first | dsimp only [Env.putR, argEnv, pure1, newPtr, applyE, hset, List.length_cons, List.length_nil, List.length_append, List.set, List.cons_append, List.nil_append] | rfl))
            | refine ⟨_, _, _, _, _, rfl, _, rfl, ?_⟩
            | refine ⟨InB.mk (by first | decide | omega) (by first | decide | omega), ?_⟩
            | refine ⟨by decide, ?_⟩
            | fail
          rfl
      · refine ⟨0, .inl rfl, PureF.E (CallP.of_body (C_ok W0) B.flush_Check rfl rfl rfl ?_)⟩
        by_cases a0 : p = []
        · have b0 : bs p = ⟨#[]⟩ := bs_nil_iff.mpr a0
          repeat' first
            | refine brP.tD (by omega) ?_
            | refine brP.fD (by omega) ?_
            | refine brP.fN (by omega) ?_
            | refine (r1).call ?_
            | refine (r2).call ?_
            | refine (sc).call ?_
            | refine ⟨_, hv, ?_⟩
            | (apply Here.norm; (first | dsimp only [Env.putR, argEnv, pure1, newPtr, applyE, hset, List.length_cons, List.length_nil, List.length_append, List.set, List.cons_append, List.nil_append] | rfl); (first | dsimp only [Env.putR, argEnv, pure1, newPtr, applyE, hset, List.length_cons, List.length_nil, List.length_append, List.set, List.cons_append, List.nil_append] | rfl))
            | refine ⟨_, _, _, _, _, rfl, _, rfl, ?_⟩
            | refine ⟨InB.mk (by first | decide | omega) (by first | decide | omega), ?_⟩
            | refine ⟨by decide, ?_⟩
            | fail
          rfl
        · have b0 : ¬ bs p = ⟨#[]⟩ := fun z => a0 (bs_nil_iff.mp z)
          rw [show okName p = true by cases ok : okName p with | true => rfl | false => exact absurd ⟨a0, ok⟩ n0] at nv
          repeat' first
            | refine brP.tD (by omega) ?_
            | refine brP.fD (by omega) ?_
            | refine brP.tN (by omega) ?_
            | refine (nv).call ?_
            | refine (r1).call ?_
            | refine (r2).call ?_
            | refine (sc).call ?_
            | refine ⟨_, hv, ?_⟩
            | (apply Here.norm; (first | dsimp only [Env.putR, argEnv, pure1, newPtr, applyE, hset, List.length_cons, List.length_nil, List.length_append, List.set, List.cons_append, List.nil_append] | rfl); (first | dsimp only [Env.putR, argEnv, pure1, newPtr, applyE, hset, List.length_cons, List.length_nil, List.length_append, List.set, List.cons_append, List.nil_append] | rfl))
            | refine ⟨_, _, _, _, _, rfl, _, rfl, ?_⟩
            | refine ⟨InB.mk (by first | decide | omega) (by first | decide | omega), ?_⟩
            | refine ⟨by decide, ?_⟩
            | fail
          rfl
end Go.Proofs.YtkocmbgpiidkdaaGreatDoor
