/- Micro.Share. -/
import Derived.Test.YtifhebempfjcmaaMQuo
import Derived.Test.YtifhebempfjcmaaMWOf
import Derived.Test.YtifhebempfjcmaaPxf15
namespace Go.Proofs.Ytifhebempfjcmaa.MM
open Go.RowKit Go.Proofs.Ytifhebempfjcmaa.P Go.Proofs.YtifhebempfjcmaaW.PrintWords Go.Proofs.YtifhebempfjcmaaW.PrintMore Go.Proofs.Ytifhebempfjcmaa.Mine
set_option linter.unusedVariables false
set_option linter.unusedSimpArgs false

theorem Share_is (h l n : Int) (hh : Hi h) (hl : U l) (hn : Hi n) (h1 : 1 ≤ n) :
    Ev (fun k => micro_Share.f k h l n) (Int.tdiv (h * 18446744073709551616 + l) n / 18446744073709551616, Int.tdiv (h * 18446744073709551616 + l) n % 18446744073709551616, 0) := by
  have lim := tdiv_pos_lim (h * 18446744073709551616 + l) n (by omega) (by unfold Hi U at *; omega)
  obtain ⟨K, hK⟩ := Quo_is h l _ _ hh hl (show Hi (n / 18446744073709551616) by unfold Hi at *; omega) (U_mod n) (by rw [U_join]; omega)
  refine ⟨K, fun k hk => ?_⟩
  have e := hK k hk
  simp only [U_join] at e
  unfold wquo at e
  rw [if_pos lim.2] at e
  simp only [micro_Share.f]
  rw [if_neg (by omega), WOf_is n hn]
  simp only [Option.bind_some, e]
end Go.Proofs.Ytifhebempfjcmaa.MM
