/- The row's closed facts, one by one; part 2. No condition. -/
import Derived.Test.YtmcigdddcknmmaaGreatRows
import Derived.JoinedOf
import Derived.KernelRfl
import Derived.Test.YtmcigdddcknmmaaGreatFc
namespace Go.Proofs.YtmcigdddcknmmaaGreat
open Go
set_option linter.unusedVariables false
set_option maxRecDepth 10000000 in
theorem j9 : (Rows.routerNoneRow.inPlace == Program.inPlace Tryz.prog 3) = true := by
  unfold Program.inPlace
  rw [closure_is]
  kernel_rfl
set_option maxRecDepth 10000000 in
theorem j10 : (Rows.routerNoneRow.unfollowed == Program.unfollowed Tryz.prog 3) = true := by
  unfold Program.unfollowed
  rw [closure_is]
  kernel_rfl
set_option maxRecDepth 10000000 in
theorem j11 : (Rows.routerNoneRow.recurses == Program.recurses Tryz.prog 3) = true := by
  unfold Program.recurses Program.unfollowed
  rw [closure_is]
  kernel_rfl
set_option maxRecDepth 10000000 in
theorem j12 : (Rows.routerNoneRow.named == Program.varsNamed Tryz.prog 3) = true := by
  unfold Program.varsNamed
  rw [closure_is]
  kernel_rfl
end Go.Proofs.YtmcigdddcknmmaaGreat
