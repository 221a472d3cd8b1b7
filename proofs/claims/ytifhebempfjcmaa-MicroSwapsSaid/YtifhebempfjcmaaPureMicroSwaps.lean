/- The pure statement of MicroSwaps, proved: over whole numbers and lists, without Go and memory. -/
import Derived.Test.YtifhebempfjcmaaMLawSwaps
namespace Go.Proofs.Ytifhebempfjcmaa.Pure
theorem MicroSwaps : Go.Proofs.Ytifhebempfjcmaa.P.tumblerlaw02_MicroSwaps.Pure := Go.Proofs.Ytifhebempfjcmaa.MM.MicroSwaps
end Go.Proofs.Ytifhebempfjcmaa.Pure
