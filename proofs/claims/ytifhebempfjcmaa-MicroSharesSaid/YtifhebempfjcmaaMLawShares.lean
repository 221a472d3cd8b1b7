/- MicroShares, pure. -/
import Derived.Test.YtifhebempfjcmaaMShare
import Derived.Test.YtifhebempfjcmaaMShareR
import Derived.Test.YtifhebempfjcmaaPxf4
namespace Go.Proofs.Ytifhebempfjcmaa.MM
open Go.RowKit Go.Proofs.Ytifhebempfjcmaa.P Go.Proofs.YtifhebempfjcmaaW.PrintWords Go.Proofs.YtifhebempfjcmaaW.PrintMore Go.Proofs.Ytifhebempfjcmaa.Mine
set_option linter.unusedVariables false
set_option linter.unusedSimpArgs false

theorem MicroShares : tumblerlaw02_MicroShares.Pure := by
  intro h l n hh hl hn
  have hh : Hi h := wf_i64 hh
  have hl : U l := wf_u64 hl
  have hn : Hi n := wf_i64 hn
  obtain ⟨K2, h3⟩ := Share_is 0 7 2 (Hi_c _ (by decide)) (by unfold U; decide) (Hi_c _ (by decide)) (by decide)
  by_cases c : n < 1
  · refine ⟨K2, ?_⟩
    have e3 := h3 K2 (Nat.le_refl _)
    simp only at e3
    simp only [tumblerlaw02_MicroShares.f]
    rw [show micro_Share.f K2 h l n = some (0, 0, 1) by simp [micro_Share.f, c], show tumblerref02_Share.f K2 h l n = some (0, 0, 1) by simp [tumblerref02_Share.f, c], e3]
    rfl
  · obtain ⟨K, h1⟩ := Share_is h l n hh hl hn (by omega)
    obtain ⟨K', h2⟩ := ShareR_is h l n hh hl hn (by omega)
    refine ⟨max K (max K' K2), ?_⟩
    have e1 := h1 (max K (max K' K2)) (by omega)
    have e2 := h2 (max K (max K' K2)) (by omega)
    have e3 := h3 (max K (max K' K2)) (by omega)
    simp only at e1 e2 e3
    simp only [tumblerlaw02_MicroShares.f, e1, e2, e3, Option.bind_some, if_true, beq_self_eq_true, Bool.and_self]
    rfl
end Go.Proofs.Ytifhebempfjcmaa.MM
