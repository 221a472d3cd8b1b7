/- MicroRounds, pure. -/
import Derived.Test.YtifhebempfjcmaaMRound
import Derived.Test.YtifhebempfjcmaaMRoundR
import Derived.Test.YtifhebempfjcmaaPxf6
namespace Go.Proofs.Ytifhebempfjcmaa.MM
open Go.RowKit Go.Proofs.Ytifhebempfjcmaa.P Go.Proofs.YtifhebempfjcmaaW.PrintWords Go.Proofs.YtifhebempfjcmaaW.PrintMore Go.Proofs.Ytifhebempfjcmaa.Mine
set_option linter.unusedVariables false
set_option linter.unusedSimpArgs false

theorem MicroRounds : tumblerlaw02_MicroRounds.Pure := by
  intro v d hv hd
  have hv : Hi v := wf_i64 hv
  have hd : Hi d := wf_i64 hd
  obtain ⟨K2, h3⟩ := Round_is 1450000 5 (Hi_c _ (by decide)) (by decide)
  have e4 : fit ((if (1450000 : Int) < 0 then -(near (mag 1450000) (10 ^ 5)) else near (mag 1450000) (10 ^ 5)) * 10 ^ 5) = (1500000, 0) := by decide
  rw [e4] at h3
  by_cases c : d < 0 ∨ d > 6
  · refine ⟨K2 + 1, ?_⟩
    have e3 := h3 (K2 + 1) (by omega)
    simp only at e3
    rw [show (6 : Int) - ((5 : Nat) : Int) = 1 by decide] at e3
    have s1 : micro_Round.f (K2 + 1) v d = some (0, 1) := by
      simp only [micro_Round.f, micro_Round.j0]
      by_cases g : d < 0
      · rw [if_pos g]; rfl
      · rw [if_neg g, decide_eq_true (by omega)]; rfl
    have s2 : tumblerref02_Round.f (K2 + 1) v d = some (0, 1) := by
      simp only [tumblerref02_Round.f, tumblerref02_Round.j0]
      by_cases g : d < 0
      · rw [if_pos g]; rfl
      · rw [if_neg g, decide_eq_true (by omega)]; rfl
    simp only [tumblerlaw02_MicroRounds.f]
    rw [s1, s2, e3]
    rfl
  · obtain ⟨n, hn⟩ : ∃ n : Nat, d = 6 - (n : Int) := ⟨(6 - d).toNat, by omega⟩
    obtain ⟨K, h1⟩ := Round_is v n hv (by omega)
    obtain ⟨K', h2⟩ := RoundR_is v n hv (by omega)
    rw [← hn] at h1 h2
    refine ⟨max K (max K' K2), ?_⟩
    have e1 := h1 (max K (max K' K2)) (by omega)
    have e2 := h2 (max K (max K' K2)) (by omega)
    have e3 := h3 (max K (max K' K2)) (by omega)
    simp only at e1 e2 e3
    rw [show (6 : Int) - ((5 : Nat) : Int) = 1 by decide] at e3
    simp only [tumblerlaw02_MicroRounds.f, e1, e2, e3, Option.bind_some, if_true]
    rfl
end Go.Proofs.Ytifhebempfjcmaa.MM
