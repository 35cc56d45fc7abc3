/- The row's closed facts, one by one; part 1. No condition. -/
import Derived.Test.YtmcigdddcknmmaaGreatRows
import Derived.JoinedOf
import Derived.KernelRfl
namespace Go.Proofs.YtmcigdddcknmmaaGreat
open Go
set_option linter.unusedVariables false
set_option maxRecDepth 10000000 in
theorem j0 : (fun (P : Program) (f : FuncId) (fn : Func) (s : ChangeSpec) (c : OpenClaim) => (c.wf (OpenSpec.ofChange s) : Bool)) Tryz.prog 3 Tryz.f3 Rows.routerNoneSpec Rows.routerNoneRow = true := by kernel_rfl
set_option maxRecDepth 10000000 in
theorem j2 : (fun (P : Program) (f : FuncId) (fn : Func) (s : ChangeSpec) (c : OpenClaim) => (mapsRowed P : Bool)) Tryz.prog 3 Tryz.f3 Rows.routerNoneSpec Rows.routerNoneRow = true := by kernel_rfl
set_option maxRecDepth 10000000 in
theorem j3 : (fun (P : Program) (f : FuncId) (fn : Func) (s : ChangeSpec) (c : OpenClaim) => (fn.params.all (P.readableRec ·) : Bool)) Tryz.prog 3 Tryz.f3 Rows.routerNoneSpec Rows.routerNoneRow = true := by kernel_rfl
set_option maxRecDepth 10000000 in
theorem j4 : (fun (P : Program) (f : FuncId) (fn : Func) (s : ChangeSpec) (c : OpenClaim) => (namedTie P c.named s.vars : Bool)) Tryz.prog 3 Tryz.f3 Rows.routerNoneSpec Rows.routerNoneRow = true := by kernel_rfl
set_option maxRecDepth 10000000 in
theorem j5 : (fun (P : Program) (f : FuncId) (fn : Func) (s : ChangeSpec) (c : OpenClaim) => ((c.stops == []) : Bool)) Tryz.prog 3 Tryz.f3 Rows.routerNoneSpec Rows.routerNoneRow = true := by kernel_rfl
set_option maxRecDepth 10000000 in
theorem j6 : (fun (P : Program) (f : FuncId) (fn : Func) (s : ChangeSpec) (c : OpenClaim) => ((P.stops == []) : Bool)) Tryz.prog 3 Tryz.f3 Rows.routerNoneSpec Rows.routerNoneRow = true := by kernel_rfl
set_option maxRecDepth 10000000 in
theorem j7 : (fun (P : Program) (f : FuncId) (fn : Func) (s : ChangeSpec) (c : OpenClaim) => ((c.knobs == []) : Bool)) Tryz.prog 3 Tryz.f3 Rows.routerNoneSpec Rows.routerNoneRow = true := by kernel_rfl
set_option maxRecDepth 10000000 in
theorem j8 : (fun (P : Program) (f : FuncId) (fn : Func) (s : ChangeSpec) (c : OpenClaim) => ((P.stopKnobs == []) : Bool)) Tryz.prog 3 Tryz.f3 Rows.routerNoneSpec Rows.routerNoneRow = true := by kernel_rfl
end Go.Proofs.YtmcigdddcknmmaaGreat
