/- FlushChecks: every Check. -/
import Derived.Test.YtifhebempfjcmaaDoorMLawFlushChecks
namespace Go.Proofs.YtifhebempfjcmaaDoor.Pure
theorem FlushChecks : Go.Proofs.YtifhebempfjcmaaDoor.P.tumblerlaw10_FlushChecks.Pure := Go.Proofs.YtifhebempfjcmaaDoor.MM.FlushChecks
end Go.Proofs.YtifhebempfjcmaaDoor.Pure
