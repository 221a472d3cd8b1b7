/- WideSigns: for every input that the row speaks of, the law WideSigns answers true. -/
import Derived.Test.YtcfhmbhlibhlnaaDoorNWideSigns
namespace Go.Proofs.YtcfhmbhlibhlnaaDoor.Pure
theorem WideSigns : Go.Proofs.YtcfhmbhlibhlnaaDoor.P.tumblerlaw01_WideSigns.Pure := Go.Proofs.YtcfhmbhlibhlnaaDoor.MM.WideSigns
end Go.Proofs.YtcfhmbhlibhlnaaDoor.Pure
