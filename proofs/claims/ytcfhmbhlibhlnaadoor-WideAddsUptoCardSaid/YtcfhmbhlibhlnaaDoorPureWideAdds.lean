/- WideAdds: for every input that the row speaks of, the law WideAdds answers true. -/
import Derived.Test.YtcfhmbhlibhlnaaDoorNWideAdds
namespace Go.Proofs.YtcfhmbhlibhlnaaDoor.Pure
theorem WideAdds : Go.Proofs.YtcfhmbhlibhlnaaDoor.P.tumblerlaw01_WideAdds.Pure := Go.Proofs.YtcfhmbhlibhlnaaDoor.MM.WideAdds
end Go.Proofs.YtcfhmbhlibhlnaaDoor.Pure
