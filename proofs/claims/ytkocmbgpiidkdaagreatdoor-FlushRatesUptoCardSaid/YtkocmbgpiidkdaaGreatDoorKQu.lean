import Derived.Test.YtkocmbgpiidkdaaGreatDoorKWc
import Derived.Test.YtkocmbgpiidkdaaGreatDoorKWd
set_option linter.unusedVariables false
set_option linter.unusedSimpArgs false
namespace Go.Proofs.YtkocmbgpiidkdaaGreatDoor
open Go Go.Den Go.RowKit
variable {W0 : World}
/-! wide.Quo -/
def quo3 (a b : Int) : Int × Int × Int := if b = 0 then (0, 0, 11) else if R (Int.tdiv a b) then (Int.tdiv a b, Int.tmod a b, 0) else (0, 0, 10)
abbrev quoV (a b : Int) : Value := .tuple #[wv (quo3 a b).1, wv (quo3 a b).2.1, .int .i64 (quo3 a b).2.2]
theorem is0 {b : Int} (h : b = 0) : (decide (b / 18446744073709551616 = 0) && (decide (b % 18446744073709551616 = 0) && true)) = true := by subst h; rfl
theorem not0 {b : Int} (h : b ≠ 0) : (decide (b / 18446744073709551616 = 0) && (decide (b % 18446744073709551616 = 0) && true)) = false := by
  simp only [Bool.and_true, Bool.and_eq_false_iff, decide_eq_false_iff_not]; omega
theorem tmod_R {a b : Int} (ha : R a) (h : b ≠ 0) (hb : R b) : R (Int.tmod a b) := by
  rw [(tdiv_mag a b h).2]
  have nb : 0 < mag b := by unfold mag; split <;> omega
  have na := mag_nonneg a
  have m1 := Int.emod_nonneg (mag a) (show mag b ≠ 0 by omega)
  have m2 := Int.emod_lt_of_pos (mag a) nb
  have m3 := mag_R hb
  unfold R
  split <;> omega
theorem wide_Quo (a b : Int) (ha : R a) (hb : R b) : PureF (C W0) I.wide_Quo [wv a, wv b] (quoV a b) := by
  refine PureF.E (CallP.of_body (C_ok W0) B.wide_Quo rfl rfl rfl ?_)
  by_cases z : b = 0
  · have c := is0 z
    repeat' first
      | (apply Here.norm; (first | dsimp only [Env.putR, argEnv, pure1, newPtr, applyE, hset, List.length_cons, List.length_nil, List.length_append, List.set, List.cons_append, List.nil_append] | rfl); (first | dsimp only [Env.putR, argEnv, pure1, newPtr, applyE, hset, List.length_cons, List.length_nil, List.length_append, List.set, List.cons_append, List.nil_append] | rfl))
      | refine brP.t (by assumption) ?_
      | refine ⟨_, _, _, _, _, rfl, rfl, rfl, Fits.mk (by first | exact Nat.le_of_ble_eq_true rfl | (dsimp only; omega)), rfl, ?_⟩
      | refine ⟨_, _, _, _, _, rfl, Fits.mk (by first | exact Nat.le_of_ble_eq_true rfl | (dsimp only; omega)), _, rfl, ?_⟩
      | fail
    rw [quoV, quo3, if_pos z]; rfl
  · have c := not0 z
    have nb : 0 < mag b := by unfold mag; split <;> omega
    have na := mag_nonneg a
    have la := mag_R ha
    have lb := mag_R hb
    have am := wide_amount (W0 := W0) a ha
    have bm := wide_amount (W0 := W0) b hb
    have dv := wide_divided (W0 := W0) (mag a) (mag b) na (by omega) nb (by omega)
    have q0 : 0 ≤ mag a / mag b := Int.ediv_nonneg na (by omega)
    have q1 : mag a / mag b ≤ mag a := Int.ediv_le_self _ na
    have m1 := Int.emod_nonneg (mag a) (show mag b ≠ 0 by omega)
    have m2 := Int.emod_lt_of_pos (mag a) nb
    have s1 := wide_signed (W0 := W0) (mag a / mag b) q0 (by omega) (decide (a / 18446744073709551616 < 0) != decide (b / 18446744073709551616 < 0))
    have s2 := wide_signed (W0 := W0) (mag a % mag b) m1 (by omega) (decide (a / 18446744073709551616 < 0))
    have td := tdiv_mag a b z
    rw [neg_hi, neg_hi, ← td.1] at s1
    rw [neg_hi, ← td.2] at s2
    by_cases r : R (Int.tdiv a b)
    · rw [wev, wenc_in r] at s1
      rw [wev, wenc_in (tmod_R ha z hb)] at s2
      rw [← neg_hi a] at s1 s2
      rw [← neg_hi b] at s1
      repeat' first
        | refine .inl ⟨_, am, ?_⟩
        | refine .inl ⟨_, bm, ?_⟩
        | refine .inl ⟨_, dv, ?_⟩
        | refine (s1).call ?_
        | refine (s2).call ?_
        | (apply Here.norm; (first | dsimp only [Env.putR, argEnv, pure1, newPtr, applyE, hset, List.length_cons, List.length_nil, List.length_append, List.set, List.cons_append, List.nil_append] | rfl); (first | dsimp only [Env.putR, argEnv, pure1, newPtr, applyE, hset, List.length_cons, List.length_nil, List.length_append, List.set, List.cons_append, List.nil_append] | rfl))
        | refine brP.f (by assumption) ?_
        | refine ⟨_, _, _, _, _, rfl, rfl, rfl, Fits.mk (by first | exact Nat.le_of_ble_eq_true rfl | (dsimp only; omega)), rfl, ?_⟩
        | refine ⟨_, _, _, _, _, rfl, _, rfl, ?_⟩
        | refine ⟨_, _, _, _, _, rfl, Fits.mk (by first | exact Nat.le_of_ble_eq_true rfl | (dsimp only; omega)), _, rfl, ?_⟩
        | refine draw_go (C_ok W0) (by kernel_rfl) ?_
        | refine ⟨cpt_ok (by kernel_rfl), ?_⟩
        | refine ⟨by decide, ?_⟩
        | refine ⟨_, rfl, ?_⟩
        | fail
      rw [quoV, quo3, if_neg z, if_pos r]; rfl
    · rw [wev, wenc_out r] at s1
      rw [← neg_hi a, ← neg_hi b] at s1
      repeat' first
        | refine .inl ⟨_, am, ?_⟩
        | refine .inl ⟨_, bm, ?_⟩
        | refine .inl ⟨_, dv, ?_⟩
        | refine (s1).call ?_
        | (apply Here.norm; (first | dsimp only [Env.putR, argEnv, pure1, newPtr, applyE, hset, List.length_cons, List.length_nil, List.length_append, List.set, List.cons_append, List.nil_append] | rfl); (first | dsimp only [Env.putR, argEnv, pure1, newPtr, applyE, hset, List.length_cons, List.length_nil, List.length_append, List.set, List.cons_append, List.nil_append] | rfl))
        | refine brP.f (by assumption) ?_
        | refine ⟨_, _, _, _, _, rfl, rfl, rfl, Fits.mk (by first | exact Nat.le_of_ble_eq_true rfl | (dsimp only; omega)), rfl, ?_⟩
        | refine ⟨_, _, _, _, _, rfl, _, rfl, ?_⟩
        | refine ⟨_, _, _, _, _, rfl, Fits.mk (by first | exact Nat.le_of_ble_eq_true rfl | (dsimp only; omega)), _, rfl, ?_⟩
        | refine draw_go (C_ok W0) (by kernel_rfl) ?_
        | refine ⟨cpt_ok (by kernel_rfl), ?_⟩
        | refine ⟨by decide, ?_⟩
        | refine ⟨_, rfl, ?_⟩
        | fail
      rw [quoV, quo3, if_neg z, if_neg r]; rfl
end Go.Proofs.YtkocmbgpiidkdaaGreatDoor
