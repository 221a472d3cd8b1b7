/- The pure statement of MicroProducts, proved: over whole numbers and lists, without Go and memory. -/
import Derived.Test.YtifhebempfjcmaaMLawProducts
namespace Go.Proofs.Ytifhebempfjcmaa.Pure
theorem MicroProducts : Go.Proofs.Ytifhebempfjcmaa.P.tumblerlaw02_MicroProducts.Pure := Go.Proofs.Ytifhebempfjcmaa.MM.MicroProducts
end Go.Proofs.Ytifhebempfjcmaa.Pure
