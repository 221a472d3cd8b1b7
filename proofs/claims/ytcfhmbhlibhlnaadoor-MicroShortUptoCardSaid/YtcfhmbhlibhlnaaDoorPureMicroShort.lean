/- MicroShort: for every input that the row speaks of, the law MicroShort answers true. -/
import Derived.Test.YtcfhmbhlibhlnaaDoorNMicroShort
namespace Go.Proofs.YtcfhmbhlibhlnaaDoor.Pure
theorem MicroShort : Go.Proofs.YtcfhmbhlibhlnaaDoor.P.tumblerlaw02_MicroShort.Pure := Go.Proofs.YtcfhmbhlibhlnaaDoor.MM.MicroShort
end Go.Proofs.YtcfhmbhlibhlnaaDoor.Pure
