/- The row's closed facts, one by one; part 3. No condition. -/
import Derived.Test.YtmcigdddcknmmaaGreatRows
import Derived.JoinedOf
import Derived.KernelRfl
namespace Go.Proofs.YtmcigdddcknmmaaGreat
open Go
set_option linter.unusedVariables false
set_option maxRecDepth 10000000 in
theorem j13 : (fun (P : Program) (f : FuncId) (fn : Func) (s : ChangeSpec) (c : OpenClaim) => ((c.maps == (fn.params.toList ++ s.plain.varTypes P).any (P.mapsRec ·)) : Bool)) Tryz.prog 3 Tryz.f3 Rows.routerNoneSpec Rows.routerNoneRow = true := by kernel_rfl
set_option maxRecDepth 10000000 in
theorem j14 : (fun (P : Program) (f : FuncId) (fn : Func) (s : ChangeSpec) (c : OpenClaim) => ((c.ifaces == (fn.params.toList ++ s.plain.varTypes P).any (P.ifacesRec ·)) : Bool)) Tryz.prog 3 Tryz.f3 Rows.routerNoneSpec Rows.routerNoneRow = true := by kernel_rfl
set_option maxRecDepth 10000000 in
theorem j15 : (fun (P : Program) (f : FuncId) (fn : Func) (s : ChangeSpec) (c : OpenClaim) => ((c.mapsOut == P.mapsAmong fn.resultTypes.toList) : Bool)) Tryz.prog 3 Tryz.f3 Rows.routerNoneSpec Rows.routerNoneRow = true := by kernel_rfl
end Go.Proofs.YtmcigdddcknmmaaGreat
