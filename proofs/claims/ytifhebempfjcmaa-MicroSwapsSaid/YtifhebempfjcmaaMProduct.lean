/- Micro.Product. -/
import Derived.Test.YtifhebempfjcmaaMPart
import Derived.Test.YtifhebempfjcmaaPxf22
namespace Go.Proofs.Ytifhebempfjcmaa.MM
open Go.RowKit Go.Proofs.Ytifhebempfjcmaa.P Go.Proofs.YtifhebempfjcmaaW.PrintWords Go.Proofs.YtifhebempfjcmaaW.PrintMore Go.Proofs.Ytifhebempfjcmaa.Mine
set_option linter.unusedVariables false
set_option linter.unusedSimpArgs false

theorem Product_is (a b : Int) (ha : Hi a) (hb : Hi b) : Ev (fun k => micro_Product.f k a b) (fit (Int.tdiv (a * b) 1000000)) := by
  obtain ⟨K, hK⟩ := part_is a b 1000000 ha hb (Hi_c _ (by decide)) (by decide)
  refine ⟨K, fun k hk => ?_⟩
  have e := hK k hk
  simp only at e
  simp only [micro_Product.f, e, Option.bind_some]
end Go.Proofs.Ytifhebempfjcmaa.MM
