/- Rounds of the loop of works. No condition. -/
import Derived.Test.YtmcigdddcknmmaaGreatRk
namespace Go.Proofs.YtmcigdddcknmmaaGreat
open Go Go.Ev
set_option maxRecDepth 10000000 in
theorem ch2 : atS .nrm Z3 (rnds sW.ex wbody 10 Z2.F Z2.h Z2.k) = true := by kernel_rfl
set_option maxRecDepth 10000000 in
theorem ch3 : atS .nrm Z4 (rnds sW.ex wbody 10 Z3.F Z3.h Z3.k) = true := by kernel_rfl
end Go.Proofs.YtmcigdddcknmmaaGreat
