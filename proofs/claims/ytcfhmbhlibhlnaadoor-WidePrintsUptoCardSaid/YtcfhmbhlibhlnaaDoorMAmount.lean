/- Wide.amount, wide.signed and the operations of math/bits. -/
import Derived.Test.YtcfhmbhlibhlnaaDoorMWords
import Derived.Test.YtcfhmbhlibhlnaaDoorPxf64
import Derived.Test.YtcfhmbhlibhlnaaDoorPxf72
namespace Go.Proofs.YtcfhmbhlibhlnaaDoor.MM
open Go.RowKit Go.Proofs.YtcfhmbhlibhlnaaDoor.P Go.Proofs.YtcfhmbhlibhlnaaDoorW.PrintWords Go.Proofs.YtcfhmbhlibhlnaaDoorW.PrintMore Go.Proofs.YtcfhmbhlibhlnaaDoor.Mine
set_option linter.unusedVariables false
set_option linter.unusedSimpArgs false

theorem subHi_is (x y c : Int) (hx : U x) (hy : U y) (hc : 0 ≤ c) (hc' : c ≤ 1) : subHi x y c = if x < y + c then 1 else 0 := by
  unfold U at *
  unfold subHi
  by_cases h : x < y + c
  · rw [if_pos h, if_pos (by omega)]; rfl
  · rw [if_neg h, if_neg (by omega)]; rfl
theorem subHi_le (x y c : Int) : subHi x y c ≤ 1 := by unfold subHi; split <;> decide
theorem subHi_ge (x y c : Int) : 0 ≤ subHi x y c := by unfold subHi; split <;> decide
theorem subLo_is (x y c : Int) (hx : U x) (hy : U y) (hc : 0 ≤ c) (hc' : c ≤ 1) : subLo x y c = (x - y - c) % 18446744073709551616 := by
  unfold U at *
  unfold subLo
  omega
theorem addLo_is (x y c : Int) (hx : U x) (hy : U y) (hc : 0 ≤ c) (hc' : c ≤ 1) : addLo x y c = (x + y + c) % 18446744073709551616 := by
  unfold U at *
  unfold addLo
  omega
theorem addHi_is (x y c : Int) (hx : U x) (hy : U y) (hc : 0 ≤ c) (hc' : c ≤ 1) : addHi x y c = (x + y + c) / 18446744073709551616 := by
  unfold U at *
  unfold addHi
  omega
theorem amount_is (h l : Int) (hh : Hi h) (hl : U l) : wide_amount.f h l = some (mag (h * 18446744073709551616 + l) % 18446744073709551616, mag (h * 18446744073709551616 + l) / 18446744073709551616) := by
  unfold wide_amount.f
  by_cases c : h ≥ 0
  · unfold Hi U at *
    rw [if_pos c, mag_pos (by omega), wrap_u64]
    exact pair2 (by omega) (by omega)
  · have z : U 0 := by unfold U; omega
    have hw : U (h % 18446744073709551616) := by unfold U; omega
    rw [if_neg c, if_pos (subHi_le _ _ _), wrap_u64, subLo_is _ _ _ z hl (by omega) (by omega), subLo_is _ _ _ z hw (subHi_ge _ _ _) (subHi_le _ _ _), subHi_is _ _ _ z hl (by omega) (by omega)]
    unfold Hi U at *
    rw [mag_neg (by omega)]
    by_cases d : l = 0
    · rw [if_neg (by omega)]
      exact pair2 (by omega) (by omega)
    · rw [if_pos (by omega)]
      exact pair2 (by omega) (by omega)
/-- The wide number of an amount with a sign; 10: there is none. -/
def wsigned (M : Int) (b : Bool) : Int × Int × Int :=
  if M > 170141183460469231731687303715884105728 ∨ M = 170141183460469231731687303715884105728 ∧ b = false then (0, 0, 10) else ((if b = true then -M else M) / 18446744073709551616, (if b = true then -M else M) % 18446744073709551616, 0)
theorem signed_at (k : Nat) (l h : Int) (b : Bool) (hl : U l) (hh : U h) : wide_signed.f (k + 1) l h b = some (wsigned (h * 18446744073709551616 + l) b) := by
  have z : U 0 := by unfold U; omega
  unfold wide_signed.f wsigned
  simp only [wide_signed.j0]
  rw [if_pos (subHi_le _ _ _), subLo_is _ _ _ z hl (by omega) (by omega), subLo_is _ _ _ z hh (subHi_ge _ _ _) (subHi_le _ _ _), subHi_is _ _ _ z hl (by omega) (by omega)]
  unfold U at *
  cases b <;> simp only [Bool.false_eq_true, if_false, if_true, reduceCtorEq, and_false, and_true, or_false, wrap64, decide_eq_true_eq]
  all_goals
    repeat' split
    all_goals first | rfl | (exfalso; omega) | exact trip (by omega) (by omega) rfl
theorem signed_is (l h : Int) (b : Bool) (hl : U l) (hh : U h) : Ev (fun k => wide_signed.f k l h b) (wsigned (h * 18446744073709551616 + l) b) := ⟨1, fun k hk => by
  obtain ⟨k, rfl⟩ : ∃ j, k = j + 1 := ⟨k - 1, by omega⟩
  exact signed_at k l h b hl hh⟩
/-- The wide number x and 0, or 10. -/
def wenc (x : Int) : Int × Int × Int := if -170141183460469231731687303715884105728 ≤ x ∧ x < 170141183460469231731687303715884105728 then (x / 18446744073709551616, x % 18446744073709551616, 0) else (0, 0, 10)
theorem wenc_in {x : Int} (h : -170141183460469231731687303715884105728 ≤ x ∧ x < 170141183460469231731687303715884105728) : wenc x = (x / 18446744073709551616, x % 18446744073709551616, 0) := if_pos h
theorem wenc_out {x : Int} (h : ¬ (-170141183460469231731687303715884105728 ≤ x ∧ x < 170141183460469231731687303715884105728)) : wenc x = (0, 0, 10) := if_neg h
theorem wsigned_enc (M : Int) (b : Bool) (hM : 0 ≤ M) : wsigned M b = wenc (if b = true then -M else M) := by
  unfold wsigned wenc
  cases b <;> simp only [Bool.false_eq_true, if_false, if_true, reduceCtorEq, and_false, and_true, or_false]
  · by_cases c : M > 170141183460469231731687303715884105728 ∨ M = 170141183460469231731687303715884105728
    · rw [if_pos c, if_neg (by omega)]
    · rw [if_neg c, if_pos (by omega)]
  · by_cases c : M > 170141183460469231731687303715884105728
    · rw [if_pos c, if_neg (by omega)]
    · rw [if_neg c, if_pos (by omega)]
end Go.Proofs.YtcfhmbhlibhlnaaDoor.MM
