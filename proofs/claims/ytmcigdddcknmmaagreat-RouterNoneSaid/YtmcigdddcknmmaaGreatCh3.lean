/- The end of the loop of works; what lies ahead of it and behind it. No condition. -/
import Derived.Test.YtmcigdddcknmmaaGreatRk
namespace Go.Proofs.YtmcigdddcknmmaaGreat
open Go Go.Ev
set_option maxRecDepth 10000000 in
theorem ch4 : atS (.ext 0) ZE (sW.ex (.lo wbody) none Z4.F [] Z4.h Z4.k) = true := by kernel_rfl
set_option maxRecDepth 10000000 in
theorem ch0 : isT (fnR fns quiet (stP sW (hkS Z1 (.ext 0) ZE) wpath) q5 [] .e .h) = true := by kernel_rfl
end Go.Proofs.YtmcigdddcknmmaaGreat
