/- MicroWideBack: for every input that the row speaks of, the law MicroWideBack answers true. -/
import Derived.Test.YtcfhmbhlibhlnaaDoorNMicroWideBack
namespace Go.Proofs.YtcfhmbhlibhlnaaDoor.Pure
theorem MicroWideBack : Go.Proofs.YtcfhmbhlibhlnaaDoor.P.tumblerlaw02_MicroWideBack.Pure := Go.Proofs.YtcfhmbhlibhlnaaDoor.MM.MicroWideBack
end Go.Proofs.YtcfhmbhlibhlnaaDoor.Pure
