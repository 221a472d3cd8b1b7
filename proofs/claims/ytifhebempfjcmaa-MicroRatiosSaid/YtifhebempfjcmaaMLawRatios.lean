/- MicroRatios, pure. -/
import Derived.Test.YtifhebempfjcmaaMRatio
import Derived.Test.YtifhebempfjcmaaMRatioR
import Derived.Test.YtifhebempfjcmaaPxf9
namespace Go.Proofs.Ytifhebempfjcmaa.MM
open Go.RowKit Go.Proofs.Ytifhebempfjcmaa.P Go.Proofs.YtifhebempfjcmaaW.PrintWords Go.Proofs.YtifhebempfjcmaaW.PrintMore Go.Proofs.Ytifhebempfjcmaa.Mine
set_option linter.unusedVariables false
set_option linter.unusedSimpArgs false

theorem MicroRatios : tumblerlaw02_MicroRatios.Pure := by
  intro a b ha hb
  obtain ⟨K2, h3⟩ := Ratio_is 1000000 3000000 (Hi_c _ (by decide)) (Hi_c _ (by decide)) (by decide)
  have e4 : fit (Int.tdiv (1000000 * 1000000) 3000000) = (333333, 0) := by decide
  by_cases c : b = 0
  · refine ⟨K2, ?_⟩
    have e3 := h3 K2 (Nat.le_refl _)
    simp only at e3
    simp only [tumblerlaw02_MicroRatios.f]
    rw [show micro_Ratio.f K2 a b = some (0, 11) by simp [micro_Ratio.f, c], show tumblerref02_Ratio.f K2 a b = some (0, 11) by simp [tumblerref02_Ratio.f, c], e3, e4]
    rfl
  · obtain ⟨K, h1⟩ := Ratio_is a b (wf_i64 ha) (wf_i64 hb) c
    obtain ⟨K', h2⟩ := RatioR_is a b (wf_i64 ha) (wf_i64 hb) c
    refine ⟨max K (max K' K2), ?_⟩
    have e1 := h1 (max K (max K' K2)) (by omega)
    have e2 := h2 (max K (max K' K2)) (by omega)
    have e3 := h3 (max K (max K' K2)) (by omega)
    simp only at e1 e2 e3
    simp only [tumblerlaw02_MicroRatios.f, e1, e2, e3, e4, Option.bind_some, if_true]
    rfl
end Go.Proofs.Ytifhebempfjcmaa.MM
