/- WideSquares: for every input that the row speaks of, the law WideSquares answers true. -/
import Derived.Test.YtcfhmbhlibhlnaaDoorNWideSquares
namespace Go.Proofs.YtcfhmbhlibhlnaaDoor.Pure
theorem WideSquares : Go.Proofs.YtcfhmbhlibhlnaaDoor.P.tumblerlaw01_WideSquares.Pure := Go.Proofs.YtcfhmbhlibhlnaaDoor.MM.WideSquares
end Go.Proofs.YtcfhmbhlibhlnaaDoor.Pure
