/- MicroBack: for every input that the row speaks of, the law MicroBack answers true. -/
import Derived.Test.YtcfhmbhlibhlnaaDoorNMicroBack
namespace Go.Proofs.YtcfhmbhlibhlnaaDoor.Pure
theorem MicroBack : Go.Proofs.YtcfhmbhlibhlnaaDoor.P.tumblerlaw02_MicroBack.Pure := Go.Proofs.YtcfhmbhlibhlnaaDoor.MM.MicroBack
end Go.Proofs.YtcfhmbhlibhlnaaDoor.Pure
