/- WidePrints, pure. -/
import Derived.Test.YtcfhmbhlibhlnaaDoorMWPrint
import Derived.Test.YtcfhmbhlibhlnaaDoorMRPrint
import Derived.Test.YtcfhmbhlibhlnaaDoorPxf3
namespace Go.Proofs.YtcfhmbhlibhlnaaDoor.MM
open Go.RowKit Go.Proofs.YtcfhmbhlibhlnaaDoor.P Go.Proofs.YtcfhmbhlibhlnaaDoorW.PrintWords Go.Proofs.YtcfhmbhlibhlnaaDoorW.PrintMore Go.Proofs.YtcfhmbhlibhlnaaDoor.Mine
set_option linter.unusedVariables false
set_option linter.unusedSimpArgs false

theorem WidePrints : tumblerlaw01_WidePrints.Pure := by
  intro h l hh hl
  have hh : Hi h := wf_i64 hh
  have hl : U l := wf_u64 hl
  refine Ev_rounds (g := fun k => tumblerlaw01_WidePrints.f k h l) ?_
  simp only [tumblerlaw01_WidePrints.f]
  refine Ev.bind (WPrint_is h l hh hl) (Ev.bind (RPrint_is h l hh hl) ⟨0, fun k _ => ?_⟩)
  show some _ = some _
  rw [beq_self_eq_true]
end Go.Proofs.YtcfhmbhlibhlnaaDoor.MM
