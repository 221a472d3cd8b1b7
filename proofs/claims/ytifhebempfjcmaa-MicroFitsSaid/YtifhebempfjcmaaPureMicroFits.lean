/- The pure statement of MicroFits, proved: over whole numbers and lists, without Go and memory. -/
import Derived.Test.YtifhebempfjcmaaMLawFits
namespace Go.Proofs.Ytifhebempfjcmaa.Pure
theorem MicroFits : Go.Proofs.Ytifhebempfjcmaa.P.tumblerlaw02_MicroFits.Pure := Go.Proofs.Ytifhebempfjcmaa.MM.MicroFits
end Go.Proofs.Ytifhebempfjcmaa.Pure
