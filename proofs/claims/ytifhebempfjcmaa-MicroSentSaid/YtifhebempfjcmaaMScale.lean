/- Micro.Scale. -/
import Derived.Test.YtifhebempfjcmaaMPart
import Derived.Test.YtifhebempfjcmaaPxf26
namespace Go.Proofs.Ytifhebempfjcmaa.MM
open Go.RowKit Go.Proofs.Ytifhebempfjcmaa.P Go.Proofs.YtifhebempfjcmaaW.PrintWords Go.Proofs.YtifhebempfjcmaaW.PrintMore Go.Proofs.Ytifhebempfjcmaa.Mine
set_option linter.unusedVariables false
set_option linter.unusedSimpArgs false

theorem Scale_is (v r : Int) (hv : -1000000000000000 ≤ v ∧ v ≤ 1000000000000000) (hr : 1000 ≤ r ∧ r ≤ 1000000) : Ev (fun k => micro_Scale.f k v r) (Int.tdiv (v * 1000000) r, 0) := by
  have lim := scale_fit v r hv hr.1
  obtain ⟨K, hK⟩ := part_is v 1000000 r (Hi_c _ (by omega)) (Hi_c _ (by decide)) (Hi_c _ (by omega)) (by omega)
  refine ⟨K + 1, fun k hk => ?_⟩
  obtain ⟨k, rfl⟩ : ∃ j, k = j + 1 := ⟨k - 1, by omega⟩
  have e := hK k (by omega)
  simp only at e
  rw [fit_in (by omega)] at e
  simp only [micro_Scale.f, micro_Scale.j0]
  rw [if_neg (by omega), decide_eq_false (by omega), if_neg (by decide), if_neg (by omega), if_neg (by omega), e]
  rfl
end Go.Proofs.Ytifhebempfjcmaa.MM
