/- The row's closed facts, one by one; part 4. No condition. -/
import Derived.Test.YtmcigdddcknmmaaGreatRows
import Derived.JoinedOf
import Derived.KernelRfl
namespace Go.Proofs.YtmcigdddcknmmaaGreat
open Go
set_option linter.unusedVariables false
set_option maxRecDepth 10000000 in
theorem j16 : (fun (P : Program) (f : FuncId) (fn : Func) (s : ChangeSpec) (c : OpenClaim) => ((c.loops == (fn.params.toList ++ s.plain.varTypes P).any (P.loopsFrom ·)) : Bool)) Tryz.prog 3 Tryz.f3 Rows.routerNoneSpec Rows.routerNoneRow = true := by kernel_rfl
set_option maxRecDepth 10000000 in
theorem j17 : (fun (P : Program) (f : FuncId) (fn : Func) (s : ChangeSpec) (c : OpenClaim) => ((c.wideKeys == (fn.params.toList ++ s.plain.varTypes P ++ fn.resultTypes.toList).any (P.wideKeysFrom ·)) : Bool)) Tryz.prog 3 Tryz.f3 Rows.routerNoneSpec Rows.routerNoneRow = true := by kernel_rfl
set_option maxRecDepth 10000000 in
theorem j18 : (fun (P : Program) (f : FuncId) (fn : Func) (s : ChangeSpec) (c : OpenClaim) => (s.vars.all (P.varReadable ·) : Bool)) Tryz.prog 3 Tryz.f3 Rows.routerNoneSpec Rows.routerNoneRow = true := by kernel_rfl
set_option maxRecDepth 10000000 in
theorem j19 : (fun (P : Program) (f : FuncId) (fn : Func) (s : ChangeSpec) (c : OpenClaim) => (fn.resultTypes.all (fun t => P.readableRec t && decide (t < P.types.size)) : Bool)) Tryz.prog 3 Tryz.f3 Rows.routerNoneSpec Rows.routerNoneRow = true := by kernel_rfl
set_option maxRecDepth 10000000 in
theorem j20 : (fun (P : Program) (f : FuncId) (fn : Func) (s : ChangeSpec) (c : OpenClaim) => ((c.ifacesOut == fn.resultTypes.toList.any (P.ifacesRec ·)) : Bool)) Tryz.prog 3 Tryz.f3 Rows.routerNoneSpec Rows.routerNoneRow = true := by kernel_rfl
set_option maxRecDepth 10000000 in
theorem j21 : (fun (P : Program) (f : FuncId) (fn : Func) (s : ChangeSpec) (c : OpenClaim) => ((c.loopsOut == fn.resultTypes.toList.any (P.loopsFrom ·)) : Bool)) Tryz.prog 3 Tryz.f3 Rows.routerNoneSpec Rows.routerNoneRow = true := by kernel_rfl
set_option maxRecDepth 10000000 in
theorem j22 : (fun (P : Program) (f : FuncId) (fn : Func) (s : ChangeSpec) (c : OpenClaim) => ((c.plainKeys == P.plainKeys) : Bool)) Tryz.prog 3 Tryz.f3 Rows.routerNoneSpec Rows.routerNoneRow = true := by kernel_rfl
set_option maxRecDepth 10000000 in
theorem j23 : (fun (P : Program) (f : FuncId) (fn : Func) (s : ChangeSpec) (c : OpenClaim) => (c.shortTexts.isNone : Bool)) Tryz.prog 3 Tryz.f3 Rows.routerNoneSpec Rows.routerNoneRow = true := by kernel_rfl
set_option maxRecDepth 10000000 in
theorem j24 : (fun (P : Program) (f : FuncId) (fn : Func) (s : ChangeSpec) (c : OpenClaim) => (P.stopsHeard : Bool)) Tryz.prog 3 Tryz.f3 Rows.routerNoneSpec Rows.routerNoneRow = true := by kernel_rfl
end Go.Proofs.YtmcigdddcknmmaaGreat
