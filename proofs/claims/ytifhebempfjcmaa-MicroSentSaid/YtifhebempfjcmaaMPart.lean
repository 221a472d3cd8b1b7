/- Micro.part. -/
import Derived.Test.YtifhebempfjcmaaMMSmall
import Derived.Test.YtifhebempfjcmaaMMul
import Derived.Test.YtifhebempfjcmaaMQuo
import Derived.Test.YtifhebempfjcmaaPxf39
namespace Go.Proofs.Ytifhebempfjcmaa.MM
open Go.RowKit Go.Proofs.Ytifhebempfjcmaa.P Go.Proofs.YtifhebempfjcmaaW.PrintWords Go.Proofs.YtifhebempfjcmaaW.PrintMore Go.Proofs.Ytifhebempfjcmaa.Mine
set_option linter.unusedVariables false
set_option linter.unusedSimpArgs false

theorem part_is (a b c : Int) (ha : Hi a) (hb : Hi b) (hc : Hi c) (h0 : c ≠ 0) : Ev (fun k => micro_part.f k a b c) (fit (Int.tdiv (a * b) c)) := by
  have enc : ∀ x, Hi x → Hi (x / 18446744073709551616) := fun x h => by unfold Hi at *; omega
  have lim := mul_lim a b 9223372036854775808 9223372036854775808 (by unfold Hi at ha; omega) (by unfold Hi at hb; omega) (by decide) (by decide)
  have lim2 := tdiv_lim (a * b) c (9223372036854775808 * 9223372036854775808) lim h0
  obtain ⟨K, hK⟩ := Mul_is _ _ _ _ (enc a ha) (U_mod a) (enc b hb) (U_mod b)
  obtain ⟨K', hK'⟩ := Quo_is (a * b / 18446744073709551616) (a * b % 18446744073709551616) _ _ (by unfold Hi; omega) (U_mod _) (enc c hc) (U_mod c) (by rw [U_join]; exact h0)
  refine ⟨max K K', fun k hk => ?_⟩
  have e1 := hK k (by omega)
  have e2 := hK' k (by omega)
  simp only [U_join] at e1 e2
  unfold micro_part.f
  rw [WOf_is a ha, WOf_is b hb]
  simp only [Option.bind_some, e1]
  rw [wenc_in (by omega)]
  simp only [if_true]
  rw [WOf_is c hc]
  simp only [Option.bind_some, e2]
  unfold wquo
  rw [if_pos (by omega)]
  simp only
  rw [msmall_is _ (by omega)]
  rfl

end Go.Proofs.Ytifhebempfjcmaa.MM
