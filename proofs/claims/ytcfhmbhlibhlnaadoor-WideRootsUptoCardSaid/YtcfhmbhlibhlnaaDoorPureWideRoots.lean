/- WideRoots: for every input that the row speaks of, the law WideRoots answers true. -/
import Derived.Test.YtcfhmbhlibhlnaaDoorNWideRoots
namespace Go.Proofs.YtcfhmbhlibhlnaaDoor.Pure
theorem WideRoots : Go.Proofs.YtcfhmbhlibhlnaaDoor.P.tumblerlaw01_WideRoots.Pure := Go.Proofs.YtcfhmbhlibhlnaaDoor.MM.WideRoots
end Go.Proofs.YtcfhmbhlibhlnaaDoor.Pure
