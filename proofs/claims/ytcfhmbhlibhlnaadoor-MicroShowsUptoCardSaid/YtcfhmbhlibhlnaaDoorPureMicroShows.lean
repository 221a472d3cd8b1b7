/- MicroShows: for every input that the row speaks of, the law MicroShows answers true. -/
import Derived.Test.YtcfhmbhlibhlnaaDoorNMicroShows
namespace Go.Proofs.YtcfhmbhlibhlnaaDoor.Pure
theorem MicroShows : Go.Proofs.YtcfhmbhlibhlnaaDoor.P.tumblerlaw02_MicroShows.Pure := Go.Proofs.YtcfhmbhlibhlnaaDoor.MM.MicroShows
end Go.Proofs.YtcfhmbhlibhlnaaDoor.Pure
