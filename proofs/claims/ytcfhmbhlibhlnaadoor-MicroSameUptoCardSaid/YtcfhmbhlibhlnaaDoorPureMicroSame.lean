/- MicroSame: for every input that the row speaks of, the law MicroSame answers true. -/
import Derived.Test.YtcfhmbhlibhlnaaDoorNMicroSame
namespace Go.Proofs.YtcfhmbhlibhlnaaDoor.Pure
theorem MicroSame : Go.Proofs.YtcfhmbhlibhlnaaDoor.P.tumblerlaw02_MicroSame.Pure := Go.Proofs.YtcfhmbhlibhlnaaDoor.MM.MicroSame
end Go.Proofs.YtcfhmbhlibhlnaaDoor.Pure
