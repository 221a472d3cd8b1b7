/- WideOrders: for every input that the row speaks of, the law WideOrders answers true. -/
import Derived.Test.YtcfhmbhlibhlnaaDoorNWideOrders
namespace Go.Proofs.YtcfhmbhlibhlnaaDoor.Pure
theorem WideOrders : Go.Proofs.YtcfhmbhlibhlnaaDoor.P.tumblerlaw01_WideOrders.Pure := Go.Proofs.YtcfhmbhlibhlnaaDoor.MM.WideOrders
end Go.Proofs.YtcfhmbhlibhlnaaDoor.Pure
