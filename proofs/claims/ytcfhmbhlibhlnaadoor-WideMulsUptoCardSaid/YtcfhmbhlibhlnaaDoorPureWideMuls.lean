/- WideMuls: for every input that the row speaks of, the law WideMuls answers true. -/
import Derived.Test.YtcfhmbhlibhlnaaDoorNWideMuls
namespace Go.Proofs.YtcfhmbhlibhlnaaDoor.Pure
theorem WideMuls : Go.Proofs.YtcfhmbhlibhlnaaDoor.P.tumblerlaw01_WideMuls.Pure := Go.Proofs.YtcfhmbhlibhlnaaDoor.MM.WideMuls
end Go.Proofs.YtcfhmbhlibhlnaaDoor.Pure
