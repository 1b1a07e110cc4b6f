/- Truth of conditions at atoms; valid expressions. Printed by vmk.py. -/
import Derived.Test.YtkogipcdjalehaaDoorVmUse
import Derived.Test.YtkogipcdjalehaaDoorVmLib
import Derived.Test.YtkogipcdjalehaaDoorVmExpr
import Derived.Test.YtkogipcdjalehaaDoorVmExpr2
import Derived.Test.YtkogipcdjalehaaDoorVmShaped
set_option linter.unusedVariables false
set_option linter.unusedSimpArgs false
set_option linter.unusedSectionVars false
namespace Go.Proofs.YtkogipcdjalehaaDoor
noncomputable section
theorem inKind_u64 (n : Int) : inKind .u64 n = (0 ≤ n ∧ n ≤ 18446744073709551615) := rfl
theorem u64_min : IntKind.u64.min = 0 := rfl
theorem u64_max : IntKind.u64.max = 18446744073709551615 := rfl
theorem inKind_i64 (n : Int) : inKind .i64 n = inI64 n := rfl
end
end Go.Proofs.YtkogipcdjalehaaDoor
