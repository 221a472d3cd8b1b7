/- The reference's Scale. -/
import Derived.Test.YtifhebempfjcmaaMTimes
import Derived.Test.YtifhebempfjcmaaMBy
import Derived.Test.YtifhebempfjcmaaMSmallR
import Derived.Test.YtifhebempfjcmaaPxf27
namespace Go.Proofs.Ytifhebempfjcmaa.MM
open Go.RowKit Go.Proofs.Ytifhebempfjcmaa.P Go.Proofs.YtifhebempfjcmaaW.PrintWords Go.Proofs.YtifhebempfjcmaaW.PrintMore Go.Proofs.Ytifhebempfjcmaa.Mine
set_option linter.unusedVariables false
set_option linter.unusedSimpArgs false

theorem ScaleR_is (v r : Int) (hv : -1000000000000000 ≤ v ∧ v ≤ 1000000000000000) (hr : 1000 ≤ r ∧ r ≤ 1000000) : Ev (fun k => tumblerref02_Scale.f k v r) (Int.tdiv (v * 1000000) r, 0) := by
  have hV : Hi v := Hi_c _ (by omega)
  have mv : 0 ≤ mag v ∧ mag v ≤ 1000000000000000 := by unfold mag; split <;> omega
  have lim := scale_fit v r hv hr.1
  have t := (tdiv_mag (v * 1000000) r (by omega)).1
  rw [mag_mul, show mag 1000000 = 1000000 by decide, show mag r = r from mag_pos (by omega), show decide (v * 1000000 < 0) = decide (v < 0) from decide_eq_decide.2 (by omega), show decide (r < 0) = false from decide_eq_false (by omega), Bool.bne_false] at t
  obtain ⟨K, hK⟩ := Times_small v 1000000 hV (by unfold U; decide) (by omega)
  obtain ⟨K', hK'⟩ := By_is _ _ r (U_div (mag v * 1000000) (by omega) (by omega)) (U_mod (mag v * 1000000)) (by omega) (by omega)
  have q0 : 0 ≤ mag v * 1000000 / r := Int.ediv_nonneg (by omega) (by omega)
  have q1 : mag v * 1000000 / r ≤ mag v * 1000000 := Int.ediv_le_self _ (by omega)
  obtain ⟨K2, hK2⟩ := Small_is _ _ (decide (v < 0)) (U_div (mag v * 1000000 / r) q0 (by omega)) (U_mod (mag v * 1000000 / r))
  have f := small_fit (mag v * 1000000 / r) (decide (v < 0)) q0
  rw [← t, fit_in (by omega)] at f
  refine ⟨max K (max K' K2) + 1, fun k hk => ?_⟩
  obtain ⟨k, rfl⟩ : ∃ j, k = j + 1 := ⟨k - 1, by omega⟩
  have e1 := hK k (by omega)
  have e2 := hK' k (by omega)
  have e3 := hK2 k (by omega)
  simp only [U_join] at e1 e2 e3
  simp only [tumblerref02_Scale.f, tumblerref02_Scale.j0, tumblerref02_far.f]
  rw [if_neg (by omega), decide_eq_false (by omega), if_neg (by decide), if_neg (by omega), decide_eq_false (by omega), wraps_u64 r (by omega) (by omega), Of_is v hV]
  simp only [Option.bind_some, Bool.false_eq_true, if_false, e1, e2, e3]
  revert f
  cases hb : (smallOf (mag v * 1000000 / r) (decide (v < 0))).2
  · intro f; simp only [Bool.false_eq_true, if_false] at f; injection f with f; injection f with f1 f2; exact absurd f2 (by decide)
  · intro f; simpa using f
end Go.Proofs.Ytifhebempfjcmaa.MM
