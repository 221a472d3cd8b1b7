/- WideParses: for every input that the row speaks of, the law WideParses answers true. -/
import Derived.Test.YtcfhmbhlibhlnaaDoorNWideParses
namespace Go.Proofs.YtcfhmbhlibhlnaaDoor.Pure
theorem WideParses : Go.Proofs.YtcfhmbhlibhlnaaDoor.P.tumblerlaw01_WideParses.Pure := Go.Proofs.YtcfhmbhlibhlnaaDoor.MM.WideParses
end Go.Proofs.YtcfhmbhlibhlnaaDoor.Pure
