/- The pure statement of MicroNear, proved: over whole numbers and lists, without Go and memory. -/
import Derived.Test.YtifhebempfjcmaaMLawNear
namespace Go.Proofs.Ytifhebempfjcmaa.Pure
theorem MicroNear : Go.Proofs.Ytifhebempfjcmaa.P.tumblerlaw02_MicroNear.Pure := Go.Proofs.Ytifhebempfjcmaa.MM.MicroNear
end Go.Proofs.Ytifhebempfjcmaa.Pure
