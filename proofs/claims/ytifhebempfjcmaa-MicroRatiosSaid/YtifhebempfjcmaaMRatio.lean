/- Micro.Ratio. -/
import Derived.Test.YtifhebempfjcmaaMPart
import Derived.Test.YtifhebempfjcmaaPxf24
namespace Go.Proofs.Ytifhebempfjcmaa.MM
open Go.RowKit Go.Proofs.Ytifhebempfjcmaa.P Go.Proofs.YtifhebempfjcmaaW.PrintWords Go.Proofs.YtifhebempfjcmaaW.PrintMore Go.Proofs.Ytifhebempfjcmaa.Mine
set_option linter.unusedVariables false
set_option linter.unusedSimpArgs false

theorem Ratio_is (a b : Int) (ha : Hi a) (hb : Hi b) (h0 : b ≠ 0) : Ev (fun k => micro_Ratio.f k a b) (fit (Int.tdiv (a * 1000000) b)) := by
  obtain ⟨K, hK⟩ := part_is a 1000000 b ha (Hi_c _ (by decide)) hb h0
  refine ⟨K, fun k hk => ?_⟩
  have e := hK k hk
  simp only at e
  simp only [micro_Ratio.f, e, Option.bind_some]
  rw [if_neg h0]
end Go.Proofs.Ytifhebempfjcmaa.MM
