/- The pure statement of MicroRounds, proved: over whole numbers and lists, without Go and memory. -/
import Derived.Test.YtifhebempfjcmaaMLawRounds
namespace Go.Proofs.Ytifhebempfjcmaa.Pure
theorem MicroRounds : Go.Proofs.Ytifhebempfjcmaa.P.tumblerlaw02_MicroRounds.Pure := Go.Proofs.Ytifhebempfjcmaa.MM.MicroRounds
end Go.Proofs.Ytifhebempfjcmaa.Pure
