/- The pure statement of MicroShares, proved: over whole numbers and lists, without Go and memory. -/
import Derived.Test.YtifhebempfjcmaaMLawShares
namespace Go.Proofs.Ytifhebempfjcmaa.Pure
theorem MicroShares : Go.Proofs.Ytifhebempfjcmaa.P.tumblerlaw02_MicroShares.Pure := Go.Proofs.Ytifhebempfjcmaa.MM.MicroShares
end Go.Proofs.Ytifhebempfjcmaa.Pure
