/- WidePrints: for every input that the row speaks of, the law WidePrints answers true. -/
import Derived.Test.YtcfhmbhlibhlnaaDoorMLawWidePrints
namespace Go.Proofs.YtcfhmbhlibhlnaaDoor.Pure
theorem WidePrints : Go.Proofs.YtcfhmbhlibhlnaaDoor.P.tumblerlaw01_WidePrints.Pure := Go.Proofs.YtcfhmbhlibhlnaaDoor.MM.WidePrints
end Go.Proofs.YtcfhmbhlibhlnaaDoor.Pure
