/- The row's closed facts together. No condition. -/
import Derived.Test.YtmcigdddcknmmaaGreatFa1
import Derived.Test.YtmcigdddcknmmaaGreatFa2
import Derived.Test.YtmcigdddcknmmaaGreatFa3
import Derived.Test.YtmcigdddcknmmaaGreatFa4
import Derived.Test.YtmcigdddcknmmaaGreatFa5
import Derived.Test.YtmcigdddcknmmaaGreatFa6
namespace Go.Proofs.YtmcigdddcknmmaaGreat
open Go
theorem an {a b : Bool} (h : a = true) (k : b = true) : (a && b) = true := by rw [h, k]; rfl
set_option maxRecDepth 10000000 in
theorem joined : joinedFacts Tryz.prog 3 Tryz.f3 Rows.routerNoneSpec Rows.routerNoneRow = true := by
  unfold joinedFacts
  exact (an (an (an (an (an (an (an (an (an (an (an (an (an (an (an (an (an (an (an (an (an (an (an (an (an (an (an (an (an (an (an j0 laidOut) j2) j3) j4) j5) j6) j7) j8) j9) j10) j11) j12) j13) j14) j15) j16) j17) j18) j19) j20) j21) j22) j23) j24) j25) j26) j27) j28) j29) j30) j31)
end Go.Proofs.YtmcigdddcknmmaaGreat
