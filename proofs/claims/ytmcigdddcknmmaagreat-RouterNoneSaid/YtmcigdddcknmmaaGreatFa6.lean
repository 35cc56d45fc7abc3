/- The row's closed facts, one by one; part 5. No condition. -/
import Derived.Test.YtmcigdddcknmmaaGreatRows
import Derived.JoinedOf
import Derived.KernelRfl
namespace Go.Proofs.YtmcigdddcknmmaaGreat
open Go
set_option linter.unusedVariables false
set_option maxRecDepth 10000000 in
theorem j25 : (fun (P : Program) (f : FuncId) (fn : Func) (s : ChangeSpec) (c : OpenClaim) => (P.mayEnter : Bool)) Tryz.prog 3 Tryz.f3 Rows.routerNoneSpec Rows.routerNoneRow = true := by kernel_rfl
set_option maxRecDepth 10000000 in
theorem j26 : (fun (P : Program) (f : FuncId) (fn : Func) (s : ChangeSpec) (c : OpenClaim) => ((c.lifted == P.liftsFinal) : Bool)) Tryz.prog 3 Tryz.f3 Rows.routerNoneSpec Rows.routerNoneRow = true := by kernel_rfl
set_option maxRecDepth 10000000 in
theorem j27 : (fun (P : Program) (f : FuncId) (fn : Func) (s : ChangeSpec) (c : OpenClaim) => ((P.make == some c.make) : Bool)) Tryz.prog 3 Tryz.f3 Rows.routerNoneSpec Rows.routerNoneRow = true := by kernel_rfl
set_option maxRecDepth 10000000 in
theorem j28 : (fun (P : Program) (f : FuncId) (fn : Func) (s : ChangeSpec) (c : OpenClaim) => ((c.kinds == (if c.domain.isEmpty then [] else fn.params.toList.map fun t => match P.underlying t with | some (.int k) => some k | _ => none)) : Bool)) Tryz.prog 3 Tryz.f3 Rows.routerNoneSpec Rows.routerNoneRow = true := by kernel_rfl
set_option maxRecDepth 10000000 in
theorem j29 : (fun (P : Program) (f : FuncId) (fn : Func) (s : ChangeSpec) (c : OpenClaim) => ((c.pinned == c.pinnedBy) : Bool)) Tryz.prog 3 Tryz.f3 Rows.routerNoneSpec Rows.routerNoneRow = true := by kernel_rfl
set_option maxRecDepth 10000000 in
theorem j30 : (fun (P : Program) (f : FuncId) (fn : Func) (s : ChangeSpec) (c : OpenClaim) => ((c.veiled == (fn.params.toList ++ s.plain.varTypes P ++ fn.resultTypes.toList).any (P.veiledRec ·)) : Bool)) Tryz.prog 3 Tryz.f3 Rows.routerNoneSpec Rows.routerNoneRow = true := by kernel_rfl
set_option maxRecDepth 10000000 in
theorem j31 : (fun (P : Program) (f : FuncId) (fn : Func) (s : ChangeSpec) (c : OpenClaim) => (c.veiledFits P fn.params.toList (fn.params.toList ++ s.plain.varTypes P ++ fn.resultTypes.toList) : Bool)) Tryz.prog 3 Tryz.f3 Rows.routerNoneSpec Rows.routerNoneRow = true := by kernel_rfl
end Go.Proofs.YtmcigdddcknmmaaGreat
