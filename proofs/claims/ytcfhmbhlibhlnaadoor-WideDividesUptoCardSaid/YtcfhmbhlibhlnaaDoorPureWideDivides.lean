/- WideDivides: for every input that the row speaks of, the law WideDivides answers true. -/
import Derived.Test.YtcfhmbhlibhlnaaDoorNWideDivides
namespace Go.Proofs.YtcfhmbhlibhlnaaDoor.Pure
theorem WideDivides : Go.Proofs.YtcfhmbhlibhlnaaDoor.P.tumblerlaw01_WideDivides.Pure := Go.Proofs.YtcfhmbhlibhlnaaDoor.MM.WideDivides
end Go.Proofs.YtcfhmbhlibhlnaaDoor.Pure
