import Derived.Test.YtcfhmbhlibhlnaaDoorKWl
import Derived.Test.YtcfhmbhlibhlnaaDoorDenB
set_option linter.unusedVariables false
set_option linter.unusedSimpArgs false
namespace Go.Proofs.YtcfhmbhlibhlnaaDoor
open Go Go.Den
variable {W0 : World}
theorem wenc_R (x : Int) : R (wenc x).1 := by
  unfold wenc
  split
  · assumption
  · decide
theorem wv_of {h l : Int} (hh : Hi h) (hl : U l) : Value.agg #[.int .i64 h, .int .u64 l] = wv (h * 18446744073709551616 + l) ∧ R (h * 18446744073709551616 + l) := by
  unfold Hi U at *
  refine ⟨ag2 (by omega) (by omega), by unfold R; omega⟩
theorem wenc_ok {x : Int} (h : (wenc x).2 = 0) : R x ∧ (wenc x).1 = x := by
  by_cases k : R x
  · rw [wenc_in k]; exact ⟨k, rfl⟩
  · rw [wenc_out k] at h; cases h
theorem laws1 (a b c : Int) (h1 : (wenc (b + c)).2 = 0) (h2 : (wenc (a * (wenc (b + c)).1)).2 = 0) (h3 : (wenc (a * b)).2 = 0) (h4 : (wenc (a * c)).2 = 0) :
    wenc ((wenc (a * b)).1 + (wenc (a * c)).1) = wenc (a * (wenc (b + c)).1) := by
  rw [(wenc_ok h1).2, (wenc_ok h3).2, (wenc_ok h4).2, Int.mul_add]
theorem laws2 (a b : Int) (ha : R a) (h : (wenc (a + b)).2 = 0) : wenc ((wenc (a + b)).1 - b) = (a, 0) := by
  rw [(wenc_ok h).2, show a + b - b = a by omega, wenc_in ha]
theorem ne_false {x y : Int} (h : (!decide (x = y)) = false) : x = y := by simpa using h
theorem ne_true {x y : Int} (h : (!decide (x = y)) = true) : x ≠ y := by simpa using h
theorem ne2_true {x y z w : Int} (h : (!(decide (x = y) && (decide (z = w) && true))) = true) (h1 : x = y) (h2 : z = w) : False := by simp [h1, h2] at h
theorem eq2_true {x y z w : Int} (h1 : x = y) (h2 : z = w) : Value.bool (decide (x = y) && (decide (z = w) && true)) = .bool true := by simp [h1, h2]
set_option maxHeartbeats 8000000 in
theorem wideLaws (a b c : Int) (ha : R a) (hb : R b) (hc : R c) : PureF (C W0) I.tumblerlaw01_WideLaws [wv a, wv b, wv c] (.bool true) := by
  have s1 := wide_Add (W0 := W0) a b ha hb
  have s2 := wide_Add (W0 := W0) b a hb ha
  rw [Int.add_comm b a] at s2
  have p1 := wide_Mul (W0 := W0) a b ha hb
  have p2 := wide_Mul (W0 := W0) b a hb ha
  rw [Int.mul_comm b a] at p2
  have t1 := wide_Add (W0 := W0) b c hb hc
  have q1 := wide_Mul (W0 := W0) a _ ha (wenc_R (b + c))
  have r1 := wide_Mul (W0 := W0) a c ha hc
  have u1 := wide_Add (W0 := W0) _ _ (wenc_R (a * b)) (wenc_R (a * c))
  have d1 := wide_Sub (W0 := W0) _ b (wenc_R (a + b)) hb
  refine ⟨by simp [wv_af], .bool _, CallP.of_body (C_ok W0) B.tumblerlaw01_WideLaws rfl rfl rfl ?_⟩
  repeat' first
    | refine brP.f (ne_same2 _ _) ?_
    | refine brP.f (ne_same _) ?_
    | refine alive.call ?_
    | refine s1.call ?_
    | refine s2.call ?_
    | refine p1.call ?_
    | refine p2.call ?_
    | refine t1.call ?_
    | refine q1.call ?_
    | refine r1.call ?_
    | refine u1.call ?_
    | refine d1.call ?_
    | (apply Here.norm; (first | dsimp only [Env.putR, argEnv, pure1, newPtr, applyE, hset, List.length_cons, List.length_nil, List.length_append, List.set, List.cons_append, List.nil_append] | rfl); (first | dsimp only [Env.putR, argEnv, pure1, newPtr, applyE, hset, List.length_cons, List.length_nil, List.length_append, List.set, List.cons_append, List.nil_append] | rfl))
    | refine brP.t (by assumption) ?_
    | refine brP.f (by assumption) ?_
    | refine brP.intro (fun h => ?_) (fun h => ?_)
    | refine ⟨_, _, _, _, _, rfl, rfl, rfl, (Nat.le_of_ble_eq_true rfl), rfl, ?_⟩
    | refine ⟨_, _, _, _, _, rfl, _, rfl, ?_⟩
    | refine ⟨_, _, _, _, _, rfl, (Nat.le_of_ble_eq_true rfl), ?_⟩
    | refine draw_go (C_ok W0) (by kernel_rfl) ?_
    | refine ⟨cpt_ok (by kernel_rfl), ?_⟩
    | refine ⟨by decide, ?_⟩
    | refine ⟨subHi_le _ _ _, ?_⟩
    | refine ⟨_, rfl, ?_⟩
    | fail
  all_goals first
    | rfl
    | exact (ne_true (by assumption) ((congrArg Prod.snd (laws1 a b c (of_decide_eq_true (by assumption)) (of_decide_eq_true (by assumption)) (of_decide_eq_true (by assumption)) (of_decide_eq_true (by assumption)))).trans (of_decide_eq_true (by assumption)))).elim
    | exact (ne2_true (by assumption) (congrArg (fun x : Int × Int => x.1 / 18446744073709551616) (laws1 a b c (of_decide_eq_true (by assumption)) (of_decide_eq_true (by assumption)) (of_decide_eq_true (by assumption)) (of_decide_eq_true (by assumption)))).symm (congrArg (fun x : Int × Int => x.1 % 18446744073709551616) (laws1 a b c (of_decide_eq_true (by assumption)) (of_decide_eq_true (by assumption)) (of_decide_eq_true (by assumption)) (of_decide_eq_true (by assumption)))).symm).elim
    | exact eq2_true (congrArg (fun x : Int × Int => x.1 / 18446744073709551616) (laws2 a b ha (ne_false (by assumption)))) (congrArg (fun x : Int × Int => x.1 % 18446744073709551616) (laws2 a b ha (ne_false (by assumption))))
    | exact absurd (congrArg Prod.snd (laws2 a b ha (ne_false (by assumption)))) (of_decide_eq_false (by assumption))
end Go.Proofs.YtcfhmbhlibhlnaaDoor
