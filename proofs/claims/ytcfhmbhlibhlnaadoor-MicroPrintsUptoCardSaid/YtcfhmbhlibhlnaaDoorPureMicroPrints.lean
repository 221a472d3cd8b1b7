/- MicroPrints: for every input that the row speaks of, the law MicroPrints answers true. -/
import Derived.Test.YtcfhmbhlibhlnaaDoorNMicroPrints
namespace Go.Proofs.YtcfhmbhlibhlnaaDoor.Pure
theorem MicroPrints : Go.Proofs.YtcfhmbhlibhlnaaDoor.P.tumblerlaw02_MicroPrints.Pure := Go.Proofs.YtcfhmbhlibhlnaaDoor.MM.MicroPrints
end Go.Proofs.YtcfhmbhlibhlnaaDoor.Pure
