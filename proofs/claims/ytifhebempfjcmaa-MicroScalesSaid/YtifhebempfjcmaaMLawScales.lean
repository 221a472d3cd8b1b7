/- MicroScales, pure. -/
import Derived.Test.YtifhebempfjcmaaMScale
import Derived.Test.YtifhebempfjcmaaMScaleR
import Derived.Test.YtifhebempfjcmaaPxf11
namespace Go.Proofs.Ytifhebempfjcmaa.MM
open Go.RowKit Go.Proofs.Ytifhebempfjcmaa.P Go.Proofs.YtifhebempfjcmaaW.PrintWords Go.Proofs.YtifhebempfjcmaaW.PrintMore Go.Proofs.Ytifhebempfjcmaa.Mine
set_option linter.unusedVariables false
set_option linter.unusedSimpArgs false

theorem MicroScales : tumblerlaw02_MicroScales.Pure := by
  intro v r hv hr
  have hv : Hi v := wf_i64 hv
  have hr : Hi r := wf_i64 hr
  obtain ⟨K2, h3⟩ := Scale_is 3000000 100000 (by decide) (by decide)
  have e4 : Int.tdiv (3000000 * 1000000) 100000 = 30000000 := by decide
  rw [e4] at h3
  by_cases c : r < 1000 ∨ r > 1000000
  · refine ⟨K2 + 1, ?_⟩
    have e3 := h3 (K2 + 1) (by omega)
    simp only at e3
    simp only [tumblerlaw02_MicroScales.f]
    have s1 : micro_Scale.f (K2 + 1) v r = some (0, 23) := by
      simp only [micro_Scale.f, micro_Scale.j0]
      by_cases d : r < 1000
      · rw [if_pos d]; rfl
      · rw [if_neg d, decide_eq_true (by omega)]; rfl
    have s2 : tumblerref02_Scale.f (K2 + 1) v r = some (0, 23) := by
      simp only [tumblerref02_Scale.f, tumblerref02_Scale.j0]
      by_cases d : r < 1000
      · rw [if_pos d]; rfl
      · rw [if_neg d, decide_eq_true (by omega)]; rfl
    rw [s1, s2, e3]
    rfl
  · by_cases g : v > 1000000000000000 ∨ v < -1000000000000000
    · refine ⟨K2 + 1, ?_⟩
      have e3 := h3 (K2 + 1) (by omega)
      simp only at e3
      simp only [tumblerlaw02_MicroScales.f]
      have s1 : micro_Scale.f (K2 + 1) v r = some (0, 22) := by
        simp only [micro_Scale.f, micro_Scale.j0]
        rw [if_neg (by omega), decide_eq_false (by omega), if_neg (by decide)]
        by_cases d : v > 1000000000000000
        · rw [if_pos d]
        · rw [if_neg d, if_pos (by omega)]
      have s2 : tumblerref02_Scale.f (K2 + 1) v r = some (0, 22) := by
        simp only [tumblerref02_Scale.f, tumblerref02_Scale.j0, tumblerref02_far.f]
        rw [if_neg (by omega), decide_eq_false (by omega), if_neg (by decide)]
        by_cases d : v > 1000000000000000
        · rw [if_pos d]; rfl
        · rw [if_neg d, decide_eq_true (by omega)]; rfl
      rw [s1, s2, e3]
      rfl
    · obtain ⟨K, h1⟩ := Scale_is v r (by omega) (by omega)
      obtain ⟨K', h2⟩ := ScaleR_is v r (by omega) (by omega)
      refine ⟨max K (max K' K2), ?_⟩
      have e1 := h1 (max K (max K' K2)) (by omega)
      have e2 := h2 (max K (max K' K2)) (by omega)
      have e3 := h3 (max K (max K' K2)) (by omega)
      simp only at e1 e2 e3
      simp only [tumblerlaw02_MicroScales.f, e1, e2, e3, Option.bind_some, if_true]
      rfl
end Go.Proofs.Ytifhebempfjcmaa.MM
