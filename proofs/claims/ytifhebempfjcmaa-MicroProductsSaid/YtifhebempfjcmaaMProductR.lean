/- The reference's Product. -/
import Derived.Test.YtifhebempfjcmaaMTimes
import Derived.Test.YtifhebempfjcmaaMBy
import Derived.Test.YtifhebempfjcmaaMSmallR
import Derived.Test.YtifhebempfjcmaaPxf23
namespace Go.Proofs.Ytifhebempfjcmaa.MM
open Go.RowKit Go.Proofs.Ytifhebempfjcmaa.P Go.Proofs.YtifhebempfjcmaaW.PrintWords Go.Proofs.YtifhebempfjcmaaW.PrintMore Go.Proofs.Ytifhebempfjcmaa.Mine
set_option linter.unusedVariables false
set_option linter.unusedSimpArgs false

theorem ProductR_is (a b : Int) (ha : Hi a) (hb : Hi b) : Ev (fun k => tumblerref02_Product.f k a b) (fit (Int.tdiv (a * b) 1000000)) := by
  have ma := mag_Hi ha
  have mb := mag_Hi hb
  have hlim : mag a * mag b ≤ 9223372036854775808 * 9223372036854775808 := Int.mul_le_mul ma.2 mb.2 mb.1 (by decide)
  have h0 : 0 ≤ mag a * mag b := Int.mul_nonneg ma.1 mb.1
  obtain ⟨K, hK⟩ := Times_small a (mag b) ha (by unfold U; omega) (by omega)
  obtain ⟨K', hK'⟩ := By_is _ _ 1000000 (U_div (mag a * mag b) h0 (by omega)) (U_mod (mag a * mag b)) (by decide) (by decide)
  have q0 : 0 ≤ mag a * mag b / 1000000 := by omega
  obtain ⟨K2, hK2⟩ := Small_is _ _ (decide (a < 0) != decide (b < 0)) (U_div (mag a * mag b / 1000000) q0 (by omega)) (U_mod (mag a * mag b / 1000000))
  refine ⟨max K (max K' K2), fun k hk => ?_⟩
  have e1 := hK k (by omega)
  have e2 := hK' k (by omega)
  have e3 := hK2 k (by omega)
  simp only [U_join] at e1 e2 e3
  unfold tumblerref02_Product.f
  rw [Of_is a ha, Of_is b hb]
  simp only [Option.bind_some, e1, e2, e3]
  rw [small_fit _ _ q0]
  have t := (tdiv_mag (a * b) 1000000 (by decide)).1
  rw [mag_mul] at t
  rw [t]
  have m : mag 1000000 = 1000000 := by decide
  rw [m]
  congr 2
  by_cases c : mag a * mag b / 1000000 = 0
  · rw [c]; simp
  · have hs := sign_mul a b
    have e : (decide (a * b < 0) != decide ((1000000 : Int) < 0)) = (decide (a < 0) != decide (b < 0)) := by
      rw [show decide ((1000000 : Int) < 0) = false by decide, Bool.bne_false]
      by_cases d : (decide (a < 0) != decide (b < 0)) = true
      · rw [if_pos d] at hs; rw [d]; exact decide_eq_true (by omega)
      · rw [if_neg d] at hs; rw [Bool.eq_false_iff.mpr d]; exact decide_eq_false (by omega)
    rw [e]
end Go.Proofs.Ytifhebempfjcmaa.MM
