/- MicroSwaps, pure. -/
import Derived.Test.YtifhebempfjcmaaMProduct
import Derived.Test.YtifhebempfjcmaaMRatio
import Derived.Test.YtifhebempfjcmaaPxf10
namespace Go.Proofs.Ytifhebempfjcmaa.MM
open Go.RowKit Go.Proofs.Ytifhebempfjcmaa.P Go.Proofs.YtifhebempfjcmaaW.PrintWords Go.Proofs.YtifhebempfjcmaaW.PrintMore Go.Proofs.Ytifhebempfjcmaa.Mine
set_option linter.unusedVariables false
set_option linter.unusedSimpArgs false

theorem MicroSwaps : tumblerlaw02_MicroSwaps.Pure := by
  intro a b ha hb
  obtain ⟨K, h1⟩ := Product_is a b (wf_i64 ha) (wf_i64 hb)
  obtain ⟨K', h2⟩ := Product_is b a (wf_i64 hb) (wf_i64 ha)
  obtain ⟨K2, h3⟩ := Product_is a 1000000 (wf_i64 ha) (Hi_c _ (by decide))
  obtain ⟨K3, h4⟩ := Ratio_is a 1000000 (wf_i64 ha) (Hi_c _ (by decide)) (by decide)
  let k := max K (max K' (max K2 K3))
  refine ⟨k, ?_⟩
  have e1 := h1 k (by omega)
  have e2 := h2 k (by omega)
  have e3 := h3 k (by omega)
  have e4 := h4 k (by omega)
  rw [Int.mul_comm b a] at e2
  have e : Int.tdiv (a * 1000000) 1000000 = a := Int.mul_tdiv_cancel _ (by decide)
  rw [e, fit_in (wf_i64 ha)] at e3 e4
  simp only at e1 e2 e3 e4
  simp only [tumblerlaw02_MicroSwaps.f, e1, e2, e3, e4, Option.bind_some, if_true]
  rfl
end Go.Proofs.Ytifhebempfjcmaa.MM
