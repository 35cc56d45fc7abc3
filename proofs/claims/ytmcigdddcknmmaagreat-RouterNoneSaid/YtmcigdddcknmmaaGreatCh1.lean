/- Rounds of the loop of works. No condition. -/
import Derived.Test.YtmcigdddcknmmaaGreatRk
namespace Go.Proofs.YtmcigdddcknmmaaGreat
open Go Go.Ev
set_option maxRecDepth 10000000 in
theorem ch1 : atS .nrm Z2 (rnds sW.ex wbody 10 Z1.F Z1.h Z1.k) = true := by kernel_rfl
end Go.Proofs.YtmcigdddcknmmaaGreat
