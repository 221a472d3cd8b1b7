/- MicroParses: for every input that the row speaks of, the law MicroParses answers true. -/
import Derived.Test.YtcfhmbhlibhlnaaDoorNMicroParses
namespace Go.Proofs.YtcfhmbhlibhlnaaDoor.Pure
theorem MicroParses : Go.Proofs.YtcfhmbhlibhlnaaDoor.P.tumblerlaw02_MicroParses.Pure := Go.Proofs.YtcfhmbhlibhlnaaDoor.MM.MicroParses
end Go.Proofs.YtcfhmbhlibhlnaaDoor.Pure
