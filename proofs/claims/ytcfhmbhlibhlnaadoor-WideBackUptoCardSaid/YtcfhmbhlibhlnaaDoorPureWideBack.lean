/- WideBack: for every input that the row speaks of, the law WideBack answers true. -/
import Derived.Test.YtcfhmbhlibhlnaaDoorNWideBack
namespace Go.Proofs.YtcfhmbhlibhlnaaDoor.Pure
theorem WideBack : Go.Proofs.YtcfhmbhlibhlnaaDoor.P.tumblerlaw01_WideBack.Pure := Go.Proofs.YtcfhmbhlibhlnaaDoor.MM.WideBack
end Go.Proofs.YtcfhmbhlibhlnaaDoor.Pure
