/- The pure statement of MicroRatios, proved: over whole numbers and lists, without Go and memory. -/
import Derived.Test.YtifhebempfjcmaaMLawRatios
namespace Go.Proofs.Ytifhebempfjcmaa.Pure
theorem MicroRatios : Go.Proofs.Ytifhebempfjcmaa.P.tumblerlaw02_MicroRatios.Pure := Go.Proofs.Ytifhebempfjcmaa.MM.MicroRatios
end Go.Proofs.Ytifhebempfjcmaa.Pure
