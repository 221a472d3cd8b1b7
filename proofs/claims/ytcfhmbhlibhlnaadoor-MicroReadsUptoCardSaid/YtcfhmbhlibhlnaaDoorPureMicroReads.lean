/- MicroReads: for every input that the row speaks of, the law MicroReads answers true. -/
import Derived.Test.YtcfhmbhlibhlnaaDoorNMicroReads
namespace Go.Proofs.YtcfhmbhlibhlnaaDoor.Pure
theorem MicroReads : Go.Proofs.YtcfhmbhlibhlnaaDoor.P.tumblerlaw02_MicroReads.Pure := Go.Proofs.YtcfhmbhlibhlnaaDoor.MM.MicroReads
end Go.Proofs.YtcfhmbhlibhlnaaDoor.Pure
