/- The pure statement of MicroScales, proved: over whole numbers and lists, without Go and memory. -/
import Derived.Test.YtifhebempfjcmaaMLawScales
namespace Go.Proofs.Ytifhebempfjcmaa.Pure
theorem MicroScales : Go.Proofs.Ytifhebempfjcmaa.P.tumblerlaw02_MicroScales.Pure := Go.Proofs.Ytifhebempfjcmaa.MM.MicroScales
end Go.Proofs.Ytifhebempfjcmaa.Pure
