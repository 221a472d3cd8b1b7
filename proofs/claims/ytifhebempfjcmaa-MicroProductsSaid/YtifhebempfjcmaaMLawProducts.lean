/- MicroProducts, pure. -/
import Derived.Test.YtifhebempfjcmaaMProduct
import Derived.Test.YtifhebempfjcmaaMProductR
import Derived.Test.YtifhebempfjcmaaPxf8
namespace Go.Proofs.Ytifhebempfjcmaa.MM
open Go.RowKit Go.Proofs.Ytifhebempfjcmaa.P Go.Proofs.YtifhebempfjcmaaW.PrintWords Go.Proofs.YtifhebempfjcmaaW.PrintMore Go.Proofs.Ytifhebempfjcmaa.Mine
set_option linter.unusedVariables false
set_option linter.unusedSimpArgs false

theorem MicroProducts : tumblerlaw02_MicroProducts.Pure := by
  intro a b ha hb
  obtain ⟨K, h1⟩ := Product_is a b (wf_i64 ha) (wf_i64 hb)
  obtain ⟨K', h2⟩ := ProductR_is a b (wf_i64 ha) (wf_i64 hb)
  obtain ⟨K2, h3⟩ := Product_is 1500000 2000000 (Hi_c _ (by decide)) (Hi_c _ (by decide))
  refine ⟨max K (max K' K2), ?_⟩
  have e1 := h1 (max K (max K' K2)) (by omega)
  have e2 := h2 (max K (max K' K2)) (by omega)
  have e3 := h3 (max K (max K' K2)) (by omega)
  simp only at e1 e2 e3
  have e4 : fit (Int.tdiv (1500000 * 2000000) 1000000) = (3000000, 0) := by decide
  simp only [tumblerlaw02_MicroProducts.f, e1, e2, e3, e4, Option.bind_some, if_true]
  rfl
end Go.Proofs.Ytifhebempfjcmaa.MM
