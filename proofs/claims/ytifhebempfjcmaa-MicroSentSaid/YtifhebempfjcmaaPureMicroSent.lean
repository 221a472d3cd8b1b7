/- The pure statement of MicroSent, proved: over whole numbers and lists, without Go and memory. -/
import Derived.Test.YtifhebempfjcmaaMLawSent
namespace Go.Proofs.Ytifhebempfjcmaa.Pure
theorem MicroSent : Go.Proofs.Ytifhebempfjcmaa.P.tumblerlaw02_MicroSent.Pure := Go.Proofs.Ytifhebempfjcmaa.MM.MicroSent
end Go.Proofs.Ytifhebempfjcmaa.Pure
