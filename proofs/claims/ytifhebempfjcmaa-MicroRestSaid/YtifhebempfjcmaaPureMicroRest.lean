/- The pure statement of MicroRest, proved: over whole numbers and lists, without Go and memory. -/
import Derived.Test.YtifhebempfjcmaaMLawRest
namespace Go.Proofs.Ytifhebempfjcmaa.Pure
theorem MicroRest : Go.Proofs.Ytifhebempfjcmaa.P.tumblerlaw02_MicroRest.Pure := Go.Proofs.Ytifhebempfjcmaa.MM.MicroRest
end Go.Proofs.Ytifhebempfjcmaa.Pure
