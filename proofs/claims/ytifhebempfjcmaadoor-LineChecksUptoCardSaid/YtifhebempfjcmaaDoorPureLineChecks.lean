/- LineChecks: every Check. -/
import Derived.Test.YtifhebempfjcmaaDoorMLawLineChecks
namespace Go.Proofs.YtifhebempfjcmaaDoor.Pure
theorem LineChecks : Go.Proofs.YtifhebempfjcmaaDoor.P.tumblerlaw04_LineChecks.Pure := Go.Proofs.YtifhebempfjcmaaDoor.MM.LineChecks
end Go.Proofs.YtifhebempfjcmaaDoor.Pure
